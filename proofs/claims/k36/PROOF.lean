import PyProof.Rows.All
import Wide.All
import OpenK.AllK
import Wide.FinOn
import KE.KStateDown
import Lean
import HandS.ForMost
import HandS.Exc
import HandS.ExcOwn
import HandS.TryOnly
import HandS.WordsExc
import HandS.IsInst
import HandS.Wide
import HandS.Steps
import HandS.Style
import HandS.Flow
import HandS.Codes
import HandS.Deep
import HandS.Evl
import HandS.Conv
import HandS.Defaults
import HandS.Head0
import HandS.Head1
import HandS.Head2
import HandS.HeadEnd
import HandS.HeadHook1
import HandS.HeadHook2
import HandS.HeadHook4
import PySem.Challenge.RW_wirewary_k36_whole_what_a_letter_gives
import HandS.Walk
import HandS.RaiseMore
import KE.KIntText
import PyProof.ReprRoads
import PyProof.Rows.StrOr
import KE.SortData
import HandS.DictComp
import HandS.SetFor
import HandS.Strs
import HandS.TupAny
set_option Elab.async false
set_option linter.all false
set_option maxRecDepth 100000
set_option maxHeartbeats 4000000
namespace WW
open PySem PySem.Spec PyProof.Rows L2

def digB (K : PySem.W.Frag) : Bool := match K.lookup cStatics with
  | some ⟨_, _, .dict es _, _⟩ => es.all (fun e => match e.key with | .str _ _ => true | _ => false) && (nsFind es "sys.int_max_str_digits").isNone
  | _ => false
/-- the tuples of words at the top -/
def words24 : List PySem.Str := ["knows", "role", "send", "wait", "keep", "begin", "end", "pair", "lock", "shut", "seal", "print", "pub", "kept", "agree", "each", "for", "ask", "log", "own", "new", "var", "fresh", "name"]
def exB (K : PySem.W.Frag) : Bool := He.tupB K "WORDS" (words24.map He.Dv.str) && He.tupB K "TWO_PARTS" (["pair", "lock", "shut", "seal"].map fun x => He.Dv.str (PySem.Str.ofString x)) && He.tupB K "ONE_PART" (["print", "pub"].map fun x => He.Dv.str (PySem.Str.ofString x)) && He.tupB K "MADE" (["pair", "lock", "shut", "seal", "print", "pub"].map fun x => He.Dv.str (PySem.Str.ofString x))
/-- what the head tells: its facts, over a base -/
structure Wd (fa : List He.Fa) (fn : List He.DefD) (K : PySem.W.Frag) (mg : Str → Option Value) : Prop where
  c : He.SaysD fa fn K
  h : ∃ h : Heap, K.In h ∧ h.Ns mainGlobals mg
  dg : digB K = true
  ex : exB K = true
section
variable {fa : List He.Fa} {fn : List He.DefD} {K : PySem.W.Frag} {mg : Str → Option Value}
theorem Wd.glo (W : Wd fa fn K mg) (i : Nat) {x : Str} (e : fa[i]? = some (.glo x) := by rfl) : mg x = some (.ref (He.ga K x)) := by
  obtain ⟨h, X, G⟩ := W.h
  exact He.glo_ok X G (W.c.fact i e)
theorem Wd.free (W : Wd fa fn K mg) (i : Nat) {x : Str} (e : fa[i]? = some (.free x) := by rfl) : mg x = none := by
  obtain ⟨h, X, G⟩ := W.h
  exact He.free_ok X G (W.c.fact i e)
theorem Wd.intV (W : Wd fa fn K mg) (i : Nat) {x : Str} {n : Int} (e : fa[i]? = some (.int x n) := by rfl) : ∃ u, mg x = some u ∧ RelV (.int n) u := by
  obtain ⟨h, X, G⟩ := W.h
  obtain ⟨t, q⟩ := He.int_ok X G (W.c.fact i e)
  exact ⟨_, q, t, rfl⟩
theorem Wd.strV (W : Wd fa fn K mg) (i : Nat) {x z : Str} (e : fa[i]? = some (.str x z) := by rfl) : ∃ u, mg x = some u ∧ RelV (.str z) u := by
  obtain ⟨h, X, G⟩ := W.h
  obtain ⟨t, q⟩ := He.str_ok X G (W.c.fact i e)
  exact ⟨_, q, t, rfl⟩
theorem Wd.refV (W : Wd fa fn K mg) (i : Nat) {x : Str} (e : fa[i]? = some (.glo x) := by rfl) : ∃ u, mg x = some u ∧ RelV (.ref (He.ga K x)) u := ⟨_, W.glo i e, rfl⟩
theorem Wd.cls (W : Wd fa fn K mg) (i : Nat) {x : Str} (e : fa[i]? = some (.cls x) := by rfl) : Cls K (He.ga K x) := He.cls_ok (W.c.fact i e)
theorem Wd.noat (W : Wd fa fn K mg) (i : Nat) {x f : Str} (e : fa[i]? = some (.noat x f) := by rfl) : NoAttr K (He.ga K x) f := He.noat_ok (W.c.fact i e)
theorem Wd.meth (W : Wd fa fn K mg) (i : Nat) {x m : Str} (e : fa[i]? = some (.meth x m) := by rfl) : Meth K (He.ga K x) m (He.ma K (He.ga K x) m) := He.meth_ok (W.c.fact i e)
theorem Wd.mkr (W : Wd fa fn K mg) (i : Nat) {x : Str} (e : fa[i]? = some (.mkr x) := by rfl) : Mk K (He.ga K x) (He.ma K (He.ga K x) "__init__") := He.mkr_ok (W.c.fact i e)
theorem Wd.exm (W : Wd fa fn K mg) (i : Nat) {x y : Str} {b : Bool} (e : fa[i]? = some (.exm x y b) := by rfl) : PySem.W.exmOne K (.ref (He.ga K x)) (.ref (He.ga K y)) = some b := He.exm_ok (W.c.fact i e)
/-- raise X('m') -/
theorem Wd.pmk (W : Wd fa fn K mg) (i j : Nat) {x m : Str} {X : Cx} {jj : Nat} {p p2 pos : Pos} (hg : Gl X x) (e : fa[i]? = some (.exc x) := by rfl) (e2 : fa[j]? = some (.glo x) := by rfl) (hK : X.K = K := by rfl) (hm : X.mg = mg := by rfl)
    (hdb : (x == ("__debug__" : Str)) = false := by decide) : PMk X (.Call (.Name x p) [.Constant (.str m) jj p2] [] pos) (fun _ H Q => Q (.ref (He.ga K x)) none H) := by
  subst hK hm
  obtain ⟨q1, q2, q3, q4⟩ := He.exc_ok (K := X.K) (x := x) (W.c.fact i e)
  exact pmk_own PySem.F.excBase_ValueError q1 (W.glo j e2) q2 (raises_own q3 q4) hg hdb
end

/-- a def keeps a promise -/
structure OkF (P : Program) (w : World) (K : PySem.W.Frag) (mg : Str → Option Value) (base : Heap) (d : He.DefD) (k : Nat) (ps : List Str) (sp : Sp) : Prop where
  ex : ∃ fd, FnOk P w K mg base (L2.CX P w) k (He.fAd K d.at_) fd ps sp ∧ Binds K fd ps [] ∧ PySem.W.keepIn K (.ref (He.fAd K d.at_)) = true
theorem OkF.mono {P : Program} {w : World} {K : PySem.W.Frag} {mg : Str → Option Value} {base : Heap} {d : He.DefD} {j k : Nat} {ps : List Str} {sp : Sp} (o : OkF P w K mg base d j ps sp) (h : j ≤ k) : OkF P w K mg base d k ps sp := by
  obtain ⟨fd, F, b, kp⟩ := o.ex
  exact ⟨fd, F.mono h, b, kp⟩
theorem OkF.imp {P : Program} {w : World} {K : PySem.W.Frag} {mg : Str → Option Value} {base : Heap} {d : He.DefD} {k : Nat} {ps : List Str} {sp sp' : Sp} (o : OkF P w K mg base d k ps sp) (h : ∀ vs H Q E, sp' vs H Q E → sp vs H Q E) : OkF P w K mg base d k ps sp' := by
  obtain ⟨fd, F, b, kp⟩ := o.ex
  exact ⟨fd, F.imp h, b, kp⟩

/-- a def of the text by names, without defaults -/
def dGlo (x : Str) (st : Stmt) : He.DefD := ⟨(x, none), x, x, defArgs st, defBody st, defScope st, [], []⟩
def dMeth (c m : Str) (st : Stmt) : He.DefD := ⟨(c, some m), m, c ++ "." ++ m, defArgs st, defBody st, defScope st, [], []⟩

section
variable {fa : List He.Fa} {fn : List He.DefD} {P : Program} {w : World} {K : PySem.W.Frag} {mg : Str → Option Value} {base : Heap}
/-- THE RULE for a def -/
theorem okf (W : Wd fa fn K mg) {d : He.DefD} (i : Nat) {N ps : List Str} {k : Nat} {sp : Sp} (S : FnScope N ps d.scope) (hi : fn[i]? = some d := by rfl) (hd : d.dfl = [] := by rfl)
    (hb : ∀ (kV doc pm : Value) (an : Option Addr) (cdv ct : Value) (us : List Value), us.length = ps.length → bindArgs (PySem.W.fnOf d.name d.qual d.params d.body d.scope .none kV doc pm an cdv ct) ⟨us, []⟩ = pure (ps.zip us))
    (len : ∀ vs H Q E, sp vs H Q E → vs.length = ps.length)
    (hbody : ∀ (cdv : Value) (A : Around) (outer : List Env) (s : Shared) (H : Hp) (vs : List V) (Q : VK) (E : XK), Room k (A.deeper (envOfC d.qual d.scope s.heap.objs.size (He.fAd K d.at_) cdv)) → N.Nodup → (A.deeper (envOfC d.qual d.scope s.heap.objs.size (He.fAd K d.at_) cdv)).units + 1 < cLine →
      Takes (cxOf (L2.CX P w) P w K mg base N d.qual d.scope (He.fAd K d.at_) cdv A outer s H E) (fun cls dd _ H => E cls dd H) →
      PassesOwn (model P w) (A.deeper (envOfC d.qual d.scope s.heap.objs.size (He.fAd K d.at_) cdv)) (envOfC d.qual d.scope s.heap.objs.size (He.fAd K d.at_) cdv) (cxOf (L2.CX P w) P w K mg base N d.qual d.scope (He.fAd K d.at_) cdv A outer s H E).xe → sp vs H Q E →
      ∃ t, PSs (cxOf (L2.CX P w) P w K mg base N d.qual d.scope (He.fAd K d.at_) cdv A outer s H E) d.body t ∧ t { nx := fun _ H' => Q .non H', rt := Q } (start N vs) H) :
    OkF P w K mg base d (k + 1) ps sp := by
  obtain ⟨fd, F⟩ := W.c.def_ i hi
  have e : d.dvs K = [] := by unfold He.DefD.dvs; rw [hd]; rfl
  rw [e] at F
  refine ⟨fd, F.ok S len (fun cdv A outer s H vs Q E hr h => hbody cdv A outer s H vs Q E hr S.nd (hu_of hr) ?_ ?_ h), FunD.bindsN F hb, F.kp⟩
  · exact takes_of rfl rfl rfl rfl
  · exact passes_of rfl
end
end WW

set_option maxHeartbeats 4000000
namespace WW
open PySem PySem.Spec PyProof.Rows L2
def top (i : Nat) : Stmt := PySem.Challenge.pw_wirewary_k36_whole_what_a_letter_gives.main.body.getD i (.Pass ⟨0, 0, 0, 0⟩)
abbrev s_is_whole : Stmt := (top 14)
abbrev s_is_name : Stmt := (top 15)
abbrev s_is_atom : Stmt := (top 16)
abbrev s_parts_of : Stmt := (top 17)
abbrev s_is_term : Stmt := (top 18)
abbrev s_subterms_of : Stmt := (top 19)
abbrev s_shown : Stmt := (top 20)
abbrev s_in_order : Stmt := (top 21)
abbrev s_key_for : Stmt := (top 24)
abbrev s_check_known : Stmt := (top 25)
abbrev s_Kept___init__ : Stmt := (inClass (top 27) 0)
abbrev s_Kept_has : Stmt := (inClass (top 27) 1)
abbrev s_Kept_put : Stmt := (inClass (top 27) 2)
abbrev s_Kept_how : Stmt := (inClass (top 27) 3)
abbrev s_Kept_terms : Stmt := (inClass (top 27) 4)
abbrev s_taken_of : Stmt := (top 28)
abbrev s_made_of : Stmt := (top 29)
abbrev s_next_round : Stmt := (top 30)
abbrev s_taken_in : Stmt := (top 31)
abbrev s_had_of : Stmt := (top 32)
abbrev s_lines_to : Stmt := (top 33)
abbrev s_derived : Stmt := (top 34)
abbrev s_barred : Stmt := (top 35)
abbrev s_reply : Stmt := (top 36)
abbrev s_check_terms : Stmt := (top 37)
abbrev s_had : Stmt := (top 38)
abbrev s_gained : Stmt := (top 39)
abbrev s_needed : Stmt := (top 40)
abbrev s__law_draw : Stmt := (top 42)
abbrev s__law_take : Stmt := (top 43)
abbrev s__law_parts : Stmt := (top 44)
abbrev s__law_within : Stmt := (top 45)
abbrev s__law_text : Stmt := (top 46)
abbrev s__law_line : Stmt := (top 47)
abbrev s__law_opens : Stmt := (top 48)
abbrev s__law_next : Stmt := (top 49)
abbrev s__law_rounds : Stmt := (top 50)
abbrev s__law_all : Stmt := (top 51)
abbrev s__law_term : Stmt := (top 52)
abbrev s__law_knowns : Stmt := (top 53)
abbrev s__law_odd_terms : Stmt := (top 54)
abbrev s__law_odd_term : Stmt := (top 55)
abbrev s__law_falls : Stmt := (top 56)
abbrev s__law_chain : Stmt := (top 57)
abbrev s_law : Stmt := (top 58)
theorem sc_is_whole : FnScope ["value"] ["value"] (defScope s_is_whole) := ⟨rfl, rfl, rfl, by decide +kernel, rfl, by decide +kernel, by decide +kernel⟩
theorem sc_is_name : FnScope ["value", "sign"] ["value"] (defScope s_is_name) := ⟨rfl, rfl, rfl, by decide +kernel, rfl, by decide +kernel, by decide +kernel⟩
theorem sc_is_atom : FnScope ["value", "word", "size"] ["value"] (defScope s_is_atom) := ⟨rfl, rfl, rfl, by decide +kernel, rfl, by decide +kernel, by decide +kernel⟩
theorem sc_parts_of : FnScope ["value", "word", "size"] ["value"] (defScope s_parts_of) := ⟨rfl, rfl, rfl, by decide +kernel, rfl, by decide +kernel, by decide +kernel⟩
theorem sc_is_term : FnScope ["value", "waiting", "count", "term", "depth", "parts", "part"] ["value"] (defScope s_is_term) := ⟨rfl, rfl, rfl, by decide +kernel, rfl, by decide +kernel, by decide +kernel⟩
theorem sc_subterms_of : FnScope ["terms", "waiting", "found", "seen", "term", "text"] ["terms"] (defScope s_subterms_of) := ⟨rfl, rfl, rfl, by decide +kernel, rfl, by decide +kernel, by decide +kernel⟩
theorem sc_shown : FnScope ["term", "part"] ["term"] (defScope s_shown) := ⟨rfl, rfl, rfl, by decide +kernel, rfl, by decide +kernel, by decide +kernel⟩
theorem sc_in_order : FnScope ["terms", "found", "term", "text"] ["terms"] (defScope s_in_order) := ⟨rfl, rfl, rfl, by decide +kernel, rfl, by decide +kernel, by decide +kernel⟩
theorem sc_key_for : FnScope ["term"] ["term"] (defScope s_key_for) := ⟨rfl, rfl, rfl, by decide +kernel, rfl, by decide +kernel, by decide +kernel⟩
theorem sc_check_known : FnScope ["known", "wanted", "term"] ["known", "wanted"] (defScope s_check_known) := ⟨rfl, rfl, rfl, by decide +kernel, rfl, by decide +kernel, by decide +kernel⟩
theorem sc_Kept___init__ : FnScope ["self", "known", "term"] ["self", "known"] (defScope s_Kept___init__) := ⟨rfl, rfl, rfl, by decide +kernel, rfl, by decide +kernel, by decide +kernel⟩
theorem sc_Kept_has : FnScope ["self", "term"] ["self", "term"] (defScope s_Kept_has) := ⟨rfl, rfl, rfl, by decide +kernel, rfl, by decide +kernel, by decide +kernel⟩
theorem sc_Kept_put : FnScope ["self", "term", "how"] ["self", "term", "how"] (defScope s_Kept_put) := ⟨rfl, rfl, rfl, by decide +kernel, rfl, by decide +kernel, by decide +kernel⟩
theorem sc_Kept_how : FnScope ["self", "term"] ["self", "term"] (defScope s_Kept_how) := ⟨rfl, rfl, rfl, by decide +kernel, rfl, by decide +kernel, by decide +kernel⟩
theorem sc_Kept_terms : FnScope ["self", "row"] ["self"] (defScope s_Kept_terms) := ⟨rfl, rfl, rfl, by decide +kernel, rfl, by decide +kernel, by decide +kernel⟩
theorem sc_taken_of : FnScope ["term", "found", "key"] ["term", "found"] (defScope s_taken_of) := ⟨rfl, rfl, rfl, by decide +kernel, rfl, by decide +kernel, by decide +kernel⟩
theorem sc_made_of : FnScope ["term", "found", "part"] ["term", "found"] (defScope s_made_of) := ⟨rfl, rfl, rfl, by decide +kernel, rfl, by decide +kernel, by decide +kernel⟩
theorem sc_next_round : FnScope ["every", "found", "more", "term", "word", "part", "hangs", "made"] ["every", "found"] (defScope s_next_round) := ⟨rfl, rfl, rfl, by decide +kernel, rfl, by decide +kernel, by decide +kernel⟩
theorem sc_taken_in : FnScope ["found", "more", "term"] ["found", "more"] (defScope s_taken_in) := ⟨rfl, rfl, rfl, by decide +kernel, rfl, by decide +kernel, by decide +kernel⟩
theorem sc_had_of : FnScope ["known", "wanted", "every", "found", "more"] ["known", "wanted"] (defScope s_had_of) := ⟨rfl, rfl, rfl, by decide +kernel, rfl, by decide +kernel, by decide +kernel⟩
theorem sc_lines_to : FnScope ["found", "wanted", "lines", "places", "waiting", "term", "word", "hangs", "open_ones", "one"] ["found", "wanted"] (defScope s_lines_to) := ⟨rfl, rfl, rfl, by decide +kernel, rfl, by decide +kernel, by decide +kernel⟩
theorem sc_derived : FnScope ["known", "wanted", "found"] ["known", "wanted"] (defScope s_derived) := ⟨rfl, rfl, rfl, by decide +kernel, rfl, by decide +kernel, by decide +kernel⟩
theorem sc_barred : FnScope ["known", "wanted", "found"] ["known", "wanted"] (defScope s_barred) := ⟨rfl, rfl, rfl, by decide +kernel, rfl, by decide +kernel, by decide +kernel⟩
theorem sc_reply : FnScope ["known", "wanted", "lines"] ["known", "wanted"] (defScope s_reply) := ⟨rfl, rfl, rfl, by decide +kernel, rfl, by decide +kernel, by decide +kernel⟩
theorem sc_check_terms : FnScope ["known", "term"] ["known"] (defScope s_check_terms) := ⟨rfl, rfl, rfl, by decide +kernel, rfl, by decide +kernel, by decide +kernel⟩
theorem sc_had : FnScope ["known"] ["known"] (defScope s_had) := ⟨rfl, rfl, rfl, by decide +kernel, rfl, by decide +kernel, by decide +kernel⟩
theorem sc_gained : FnScope ["known", "letter", "ahead", "term"] ["known", "letter"] (defScope s_gained) := ⟨rfl, rfl, rfl, by decide +kernel, rfl, by decide +kernel, by decide +kernel⟩
theorem sc_needed : FnScope ["known", "wanted", "kept", "place", "less", "one"] ["known", "wanted"] (defScope s_needed) := ⟨rfl, rfl, rfl, by decide +kernel, rfl, by decide +kernel, by decide +kernel⟩
theorem sc__law_draw : FnScope ["script", "seed", "cell"] ["script"] (defScope s__law_draw) := ⟨rfl, rfl, rfl, by decide +kernel, rfl, by decide +kernel, by decide +kernel⟩
theorem sc__law_take : FnScope ["draw", "many", "found"] ["draw", "many"] (defScope s__law_take) := ⟨rfl, rfl, rfl, by decide +kernel, rfl, by decide +kernel, by decide +kernel⟩
theorem sc__law_parts : FnScope ["term"] ["term"] (defScope s__law_parts) := ⟨rfl, rfl, rfl, by decide +kernel, rfl, by decide +kernel, by decide +kernel⟩
theorem sc__law_within : FnScope ["terms", "found", "waiting", "term"] ["terms"] (defScope s__law_within) := ⟨rfl, rfl, rfl, by decide +kernel, rfl, by decide +kernel, by decide +kernel⟩
theorem sc__law_text : FnScope ["term", "part"] ["term"] (defScope s__law_text) := ⟨rfl, rfl, rfl, by decide +kernel, rfl, by decide +kernel, by decide +kernel⟩
theorem sc__law_line : FnScope ["terms", "found", "term", "text"] ["terms"] (defScope s__law_line) := ⟨rfl, rfl, rfl, by decide +kernel, rfl, by decide +kernel, by decide +kernel⟩
theorem sc__law_opens : FnScope ["term"] ["term"] (defScope s__law_opens) := ⟨rfl, rfl, rfl, by decide +kernel, rfl, by decide +kernel, by decide +kernel⟩
theorem sc__law_next : FnScope ["every", "held", "found", "term", "part"] ["every", "held"] (defScope s__law_next) := ⟨rfl, rfl, rfl, by decide +kernel, rfl, by decide +kernel, by decide +kernel⟩
theorem sc__law_rounds : FnScope ["known", "wanted", "every", "rows", "held", "more", "term"] ["known", "wanted"] (defScope s__law_rounds) := ⟨rfl, rfl, rfl, by decide +kernel, rfl, by decide +kernel, by decide +kernel⟩
theorem sc__law_all : FnScope ["rows", "found", "row"] ["rows"] (defScope s__law_all) := ⟨rfl, rfl, rfl, by decide +kernel, rfl, by decide +kernel, by decide +kernel⟩
theorem sc__law_term : FnScope ["draw", "deep", "names", "style", "one", "two"] ["draw", "deep", "names"] (defScope s__law_term) := ⟨rfl, rfl, rfl, by decide +kernel, rfl, by decide +kernel, by decide +kernel⟩
theorem sc__law_knowns : FnScope ["draw", "names", "k"] ["draw", "names"] (defScope s__law_knowns) := ⟨rfl, rfl, rfl, by decide +kernel, rfl, by decide +kernel, by decide +kernel⟩
theorem sc__law_odd_terms : FnScope ["draw"] ["draw"] (defScope s__law_odd_terms) := ⟨rfl, rfl, rfl, by decide +kernel, rfl, by decide +kernel, by decide +kernel⟩
theorem sc__law_odd_term : FnScope ["draw"] ["draw"] (defScope s__law_odd_term) := ⟨rfl, rfl, rfl, by decide +kernel, rfl, by decide +kernel, by decide +kernel⟩
theorem sc__law_falls : FnScope ["which", "known", "wanted"] ["which", "known", "wanted"] (defScope s__law_falls) := ⟨rfl, rfl, rfl, by decide +kernel, rfl, by decide +kernel, by decide +kernel⟩
theorem sc__law_chain : FnScope ["draw", "many", "keys", "rows", "k", "left", "known", "turn"] ["draw"] (defScope s__law_chain) := ⟨rfl, rfl, rfl, by decide +kernel, rfl, by decide +kernel, by decide +kernel⟩
theorem sc_law : FnScope ["script", "draw", "known", "places", "names", "turn", "letter", "ahead", "inner", "behind", "wanted", "k", "term", "one"] ["script"] (defScope s_law) := ⟨rfl, rfl, rfl, by decide +kernel, rfl, by decide +kernel, by decide +kernel⟩
def d_is_whole : He.DefD := ⟨("is_whole", none), "is_whole", "is_whole", defArgs s_is_whole, defBody s_is_whole, defScope s_is_whole, [], []⟩
def d_is_name : He.DefD := ⟨("is_name", none), "is_name", "is_name", defArgs s_is_name, defBody s_is_name, defScope s_is_name, [], []⟩
def d_is_atom : He.DefD := ⟨("is_atom", none), "is_atom", "is_atom", defArgs s_is_atom, defBody s_is_atom, defScope s_is_atom, [], []⟩
def d_parts_of : He.DefD := ⟨("parts_of", none), "parts_of", "parts_of", defArgs s_parts_of, defBody s_parts_of, defScope s_parts_of, [], []⟩
def d_is_term : He.DefD := ⟨("is_term", none), "is_term", "is_term", defArgs s_is_term, defBody s_is_term, defScope s_is_term, [], []⟩
def d_subterms_of : He.DefD := ⟨("subterms_of", none), "subterms_of", "subterms_of", defArgs s_subterms_of, defBody s_subterms_of, defScope s_subterms_of, [], []⟩
def d_shown : He.DefD := ⟨("shown", none), "shown", "shown", defArgs s_shown, defBody s_shown, defScope s_shown, [], []⟩
def d_in_order : He.DefD := ⟨("in_order", none), "in_order", "in_order", defArgs s_in_order, defBody s_in_order, defScope s_in_order, [], []⟩
def d_key_for : He.DefD := ⟨("key_for", none), "key_for", "key_for", defArgs s_key_for, defBody s_key_for, defScope s_key_for, [], []⟩
def d_check_known : He.DefD := ⟨("check_known", none), "check_known", "check_known", defArgs s_check_known, defBody s_check_known, defScope s_check_known, [], []⟩
def d_Kept___init__ : He.DefD := ⟨("Kept", some "__init__"), "__init__", "Kept.__init__", defArgs s_Kept___init__, defBody s_Kept___init__, defScope s_Kept___init__, [], []⟩
def d_Kept_has : He.DefD := ⟨("Kept", some "has"), "has", "Kept.has", defArgs s_Kept_has, defBody s_Kept_has, defScope s_Kept_has, [], []⟩
def d_Kept_put : He.DefD := ⟨("Kept", some "put"), "put", "Kept.put", defArgs s_Kept_put, defBody s_Kept_put, defScope s_Kept_put, [], []⟩
def d_Kept_how : He.DefD := ⟨("Kept", some "how"), "how", "Kept.how", defArgs s_Kept_how, defBody s_Kept_how, defScope s_Kept_how, [], []⟩
def d_Kept_terms : He.DefD := ⟨("Kept", some "terms"), "terms", "Kept.terms", defArgs s_Kept_terms, defBody s_Kept_terms, defScope s_Kept_terms, [], []⟩
def d_taken_of : He.DefD := ⟨("taken_of", none), "taken_of", "taken_of", defArgs s_taken_of, defBody s_taken_of, defScope s_taken_of, [], []⟩
def d_made_of : He.DefD := ⟨("made_of", none), "made_of", "made_of", defArgs s_made_of, defBody s_made_of, defScope s_made_of, [], []⟩
def d_next_round : He.DefD := ⟨("next_round", none), "next_round", "next_round", defArgs s_next_round, defBody s_next_round, defScope s_next_round, [], []⟩
def d_taken_in : He.DefD := ⟨("taken_in", none), "taken_in", "taken_in", defArgs s_taken_in, defBody s_taken_in, defScope s_taken_in, [], []⟩
def d_had_of : He.DefD := ⟨("had_of", none), "had_of", "had_of", defArgs s_had_of, defBody s_had_of, defScope s_had_of, [], []⟩
def d_lines_to : He.DefD := ⟨("lines_to", none), "lines_to", "lines_to", defArgs s_lines_to, defBody s_lines_to, defScope s_lines_to, [], []⟩
def d_derived : He.DefD := ⟨("derived", none), "derived", "derived", defArgs s_derived, defBody s_derived, defScope s_derived, [], []⟩
def d_barred : He.DefD := ⟨("barred", none), "barred", "barred", defArgs s_barred, defBody s_barred, defScope s_barred, [], []⟩
def d_reply : He.DefD := ⟨("reply", none), "reply", "reply", defArgs s_reply, defBody s_reply, defScope s_reply, [], []⟩
def d_check_terms : He.DefD := ⟨("check_terms", none), "check_terms", "check_terms", defArgs s_check_terms, defBody s_check_terms, defScope s_check_terms, [], []⟩
def d_had : He.DefD := ⟨("had", none), "had", "had", defArgs s_had, defBody s_had, defScope s_had, [], []⟩
def d_gained : He.DefD := ⟨("gained", none), "gained", "gained", defArgs s_gained, defBody s_gained, defScope s_gained, [], []⟩
def d_needed : He.DefD := ⟨("needed", none), "needed", "needed", defArgs s_needed, defBody s_needed, defScope s_needed, [], []⟩
def d__law_draw : He.DefD := ⟨("_law_draw", none), "_law_draw", "_law_draw", defArgs s__law_draw, defBody s__law_draw, defScope s__law_draw, [], []⟩
def d__law_take : He.DefD := ⟨("_law_take", none), "_law_take", "_law_take", defArgs s__law_take, defBody s__law_take, defScope s__law_take, [], []⟩
def d__law_parts : He.DefD := ⟨("_law_parts", none), "_law_parts", "_law_parts", defArgs s__law_parts, defBody s__law_parts, defScope s__law_parts, [], []⟩
def d__law_within : He.DefD := ⟨("_law_within", none), "_law_within", "_law_within", defArgs s__law_within, defBody s__law_within, defScope s__law_within, [], []⟩
def d__law_text : He.DefD := ⟨("_law_text", none), "_law_text", "_law_text", defArgs s__law_text, defBody s__law_text, defScope s__law_text, [], []⟩
def d__law_line : He.DefD := ⟨("_law_line", none), "_law_line", "_law_line", defArgs s__law_line, defBody s__law_line, defScope s__law_line, [], []⟩
def d__law_opens : He.DefD := ⟨("_law_opens", none), "_law_opens", "_law_opens", defArgs s__law_opens, defBody s__law_opens, defScope s__law_opens, [], []⟩
def d__law_next : He.DefD := ⟨("_law_next", none), "_law_next", "_law_next", defArgs s__law_next, defBody s__law_next, defScope s__law_next, [], []⟩
def d__law_rounds : He.DefD := ⟨("_law_rounds", none), "_law_rounds", "_law_rounds", defArgs s__law_rounds, defBody s__law_rounds, defScope s__law_rounds, [], []⟩
def d__law_all : He.DefD := ⟨("_law_all", none), "_law_all", "_law_all", defArgs s__law_all, defBody s__law_all, defScope s__law_all, [], []⟩
def d__law_term : He.DefD := ⟨("_law_term", none), "_law_term", "_law_term", defArgs s__law_term, defBody s__law_term, defScope s__law_term, [], []⟩
def d__law_knowns : He.DefD := ⟨("_law_knowns", none), "_law_knowns", "_law_knowns", defArgs s__law_knowns, defBody s__law_knowns, defScope s__law_knowns, [], []⟩
def d__law_odd_terms : He.DefD := ⟨("_law_odd_terms", none), "_law_odd_terms", "_law_odd_terms", defArgs s__law_odd_terms, defBody s__law_odd_terms, defScope s__law_odd_terms, [], []⟩
def d__law_odd_term : He.DefD := ⟨("_law_odd_term", none), "_law_odd_term", "_law_odd_term", defArgs s__law_odd_term, defBody s__law_odd_term, defScope s__law_odd_term, [], []⟩
def d__law_falls : He.DefD := ⟨("_law_falls", none), "_law_falls", "_law_falls", defArgs s__law_falls, defBody s__law_falls, defScope s__law_falls, [], []⟩
def d__law_chain : He.DefD := ⟨("_law_chain", none), "_law_chain", "_law_chain", defArgs s__law_chain, defBody s__law_chain, defScope s__law_chain, [], []⟩
def d_law : He.DefD := ⟨("law", none), "law", "law", defArgs s_law, defBody s_law, defScope s_law, [], []⟩
def fn : List He.DefD := [d_is_whole, d_is_name, d_is_atom, d_parts_of, d_is_term, d_subterms_of, d_shown, d_in_order, d_key_for, d_check_known, d_Kept___init__, d_Kept_has, d_Kept_put, d_Kept_how, d_Kept_terms, d_taken_of, d_made_of, d_next_round, d_taken_in, d_had_of, d_lines_to, d_derived, d_barred, d_reply, d_check_terms, d_had, d_gained, d_needed, d__law_draw, d__law_take, d__law_parts, d__law_within, d__law_text, d__law_line, d__law_opens, d__law_next, d__law_rounds, d__law_all, d__law_term, d__law_knowns, d__law_odd_terms, d__law_odd_term, d__law_falls, d__law_chain, d_law]
def fa : List He.Fa := [.free "isinstance",
  .free "bool",
  .free "int",
  .free "all",
  .str "DIGITS" "0123456789",
  .str "LETTERS" "abcdefghijklmnopqrstuvwxyz",
  .glo "WORDS",
  .free "len",
  .int "MOST_NAME" 12,
  .free "str",
  .int "MOST_TALKS" 4,
  .glo "is_whole",
  .glo "is_name",
  .int "MOST_OWN" 99,
  .free "tuple",
  .glo "ONE_PART",
  .glo "TWO_PARTS",
  .glo "is_atom",
  .glo "parts_of",
  .int "MOST_NODES" 80,
  .int "MOST_DEPTH" 14,
  .free "list",
  .glo "shown",
  .free "sorted",
  .glo "is_term",
  .exc "Malformed",
  .glo "Malformed",
  .cls "Kept",
  .meth "Kept" "has",
  .glo "key_for",
  .glo "MADE",
  .glo "Kept",
  .mkr "Kept",
  .meth "Kept" "terms",
  .glo "taken_of",
  .meth "Kept" "put",
  .glo "made_of",
  .meth "Kept" "how",
  .glo "subterms_of",
  .glo "next_round",
  .glo "taken_in",
  .glo "lines_to",
  .glo "had_of",
  .glo "in_order",
  .glo "barred",
  .glo "check_known",
  .glo "derived",
  .glo "check_terms",
  .free "range",
  .free "abs",
  .glo "_law_parts",
  .glo "_law_text",
  .glo "_law_opens",
  .glo "_law_within",
  .glo "_law_next",
  .glo "_law_take",
  .glo "_law_term",
  .glo "gained",
  .glo "needed",
  .glo "had",
  .glo "_law_falls",
  .glo "_law_odd_term",
  .glo "_law_draw",
  .glo "_law_chain",
  .glo "reply",
  .glo "_law_knowns",
  .glo "_law_all",
  .glo "_law_rounds",
  .glo "_law_line",
  .free "set",
  .glo "_law_odd_terms",
  .noat "Kept" "rows",
  .exm "Malformed" "Malformed" true,
  .glo "law"]
end WW

set_option maxHeartbeats 4000000
namespace WW
open PySem PySem.Spec PyProof.Rows L2
section
variable {CX : CXT} {P : Program} {w : World} {K : PySem.W.Frag} {mg : Str → Option Value} {base : Heap} {N : List Str} {qual : Str} {scope : Scope} {f : Addr} {cd : Value} {A : Around} {outer : List Env} {s : Shared} {H : Hp} {E : XK}
theorem cxOf_K : (cxOf CX P w K mg base N qual scope f cd A outer s H E).K = K := rfl
theorem cxOf_mg : (cxOf CX P w K mg base N qual scope f cd A outer s H E).mg = mg := rfl
end
/-! ### isinstance -/
def isa (d : PyData) (n : String) : Bool := match d with
  | .int _ => n == "int"
  | .bool _ => n == "bool" || n == "int"
  | .str _ => n == "str"
  | .tuple _ => n == "tuple"
  | .list _ => n == "list"
  | _ => false
def okTy (n : String) : Bool := n == "int" || n == "bool" || n == "str" || n == "tuple" || n == "list"
/-- what isinstance(x, n) answers -/
def IsaV (K : PySem.W.Frag) (H : Hp) (x : V) (n : String) (b : Bool) : Prop := match x with
  | .non => b = isa .none n
  | .bl k => b = isa (.bool k) n
  | .int i => b = isa (.int i) n
  | .str z => b = isa (.str z) n
  | .ref a => (∃ xs, SqL K H a xs ∧ b = (n == "list")) ∨ (∃ xs, SqT K H a xs ∧ b = (n == "tuple"))
  | _ => False
theorem IsaV.of {K : PySem.W.Frag} {H : Hp} {x : V} {d : PyData} {n : String} (h : Dp K H x d) : IsaV K H x n (isa d n) := by
  cases h with
  | non => rfl
  | bl b => rfl
  | int i => rfl
  | str z => rfl
  | lst h1 _ => exact .inl ⟨_, h1, rfl⟩
  | tup h1 _ => exact .inr ⟨_, h1, rfl⟩
theorem tyx_l {K : PySem.W.Frag} {H : Hp} {a : Addr} {xs : List V} (h : SqL K H a xs) : TyX K H (.ref a) (.type "list") := by
  rcases h with (h | ⟨o, h⟩) | ⟨o, its, n, h1, h2, _⟩
  · exact .base (.lst h)
  · exact .base (.frz h)
  · exact .kList h1 h2
theorem tyx_t {K : PySem.W.Frag} {H : Hp} {a : Addr} {xs : List V} (h : SqT K H a xs) : TyX K H (.ref a) (.type "tuple") := by
  rcases h with (h | ⟨o, h⟩) | ⟨o, its, n, h1, h2, _⟩
  · exact .base (.tup h)
  · exact .fTuple h
  · exact .kTuple h1 h2
theorem okTy_cases {n : String} (h : okTy n = true) : n = "int" ∨ n = "bool" ∨ n = "str" ∨ n = "tuple" ∨ n = "list" := by
  simp only [okTy, Bool.or_eq_true, beq_iff_eq] at h
  rcases h with (((h | h) | h) | h) | h <;> simp [h]
def rIsaV (K : PySem.W.Frag) : List V → Hp → VK → Prop := fun xs H Q => ∃ x n, xs = [x, V.ty n] ∧ okTy n = true ∧ ∃ b, IsaV K H x n b ∧ Q (.bl b) H
theorem call_isiV {X : Cx} : CallR X (.builtin "isinstance") (rIsaV X.K) := by
  intro pins s σ H xs us Q I r h
  obtain ⟨x, n, rfl, hn, b, hb, hq⟩ := h
  refine call_isi pins s σ H _ us Q I r ?_
  have fin : ∀ {t : String}, TyX X.K H x (.type t) → kitB t n = some b → rIsi X.K [x, V.ty n] H Q := fun {t} h1 h2 => ⟨x, .ty n, .type t, .type n, b, rfl, .ty n, h1, kit_ty h2, hq⟩
  have hn' := okTy_cases hn
  cases x with
  | non =>
    refine fin (.base .non) ?_
    have e : b = isa .none n := hb
    subst e
    rcases hn' with rfl | rfl | rfl | rfl | rfl <;> decide +kernel
  | bl k =>
    refine fin (.base (.bl k)) ?_
    have e : b = isa (.bool k) n := hb
    subst e
    rcases hn' with rfl | rfl | rfl | rfl | rfl <;> (simp only [isa]; decide +kernel)
  | int k =>
    refine fin (.base (.int k)) ?_
    have e : b = isa (.int k) n := hb
    subst e
    rcases hn' with rfl | rfl | rfl | rfl | rfl <;> (simp only [isa]; decide +kernel)
  | str k =>
    refine fin (.base (.str k)) ?_
    have e : b = isa (.str k) n := hb
    subst e
    rcases hn' with rfl | rfl | rfl | rfl | rfl <;> (simp only [isa]; decide +kernel)
  | ref a =>
    rcases hb with ⟨ys, h1, rfl⟩ | ⟨ys, h1, rfl⟩
    · refine fin (tyx_l h1) ?_
      rcases hn' with rfl | rfl | rfl | rfl | rfl <;> decide +kernel
    · refine fin (tyx_t h1) ?_
      rcases hn' with rfl | rfl | rfl | rfl | rfl <;> decide +kernel
  | byt _ => exact hb.elim
  | flt _ => exact hb.elim
  | ty _ => exact hb.elim
end WW

set_option maxHeartbeats 4000000
/-! ### the limit of digits is not set: told by the statics' own dict, a part of what is told -/
namespace WW
open PySem PySem.Spec PyProof.Rows L2
theorem noDigits_of {K : PySem.W.Frag} {h : Heap} (X : K.In h) (d : digB K = true) : h.NoDigits := by
  unfold digB at d
  split at d
  · rename_i c dd es n sl e
    obtain ⟨d1, d2⟩ := Bool.and_eq_true_iff.mp d
    refine ⟨nsFind es, ⟨_, es, n, X _ _ e, rfl, fun en hen => ?_, fun _ => rfl⟩, Option.isNone_iff_eq_none.mp d2⟩
    have q := Array.all_eq_true_iff_forall_mem.mp d1 en hen
    split at q
    · exact ⟨_, _, by assumption⟩
    · cases q
  · cases d
/-! ### str(x) of an int or a text -/
def P43 : Nat := 10 ^ 4300
def rStr1 : List V → Hp → VK → Prop := fun xs H Q => ∃ x, xs = [x] ∧ match x with
  | .int i => i.natAbs < P43 ∧ Q (.str (toString i)) H
  | .str z => Q (.str z) H
  | _ => False
theorem call_str1 {X : Cx} (hc : X.calm = true) (d : digB X.K = true) : CallR X (.type "str") rStr1 := by
  intro pins s σ H xs us Q I r h
  obtain ⟨x, rfl, h⟩ := h
  obtain ⟨u, rfl, ru⟩ := vals1 r
  cases x with
  | int i =>
    obtain ⟨t, rfl⟩ := ru
    obtain ⟨hi, hq⟩ := h
    unfold P43 at hi
    refine str_of_int_or (I.ok.hd hc) (noDigits_of I.kIn d) (fun _ => ⟨.str _, H, I.tok _, ⟨_, rfl⟩, hq⟩) (fun hge => absurd hi (Nat.not_lt.mpr hge))
  | str z =>
    obtain ⟨t, rfl⟩ := ru
    exact PySem.P.str_of_str ⟨.str z, H, I, ⟨t, rfl⟩, h⟩
  | _ => exact h.elim
/-! ### int(text), up to 4300 digits -/
theorem limit_here {M : Model} {A : Around} {E : Value → Shared → Prop} {s : Shared} {Q : Nat → Shared → Prop} (hn : s.heap.NoDigits) (h : Q 4300 s) : wpAny M A Builtin.intMaxStrDigits Q E s := by
  obtain ⟨mc, hns, hnone⟩ := hn
  unfold Builtin.intMaxStrDigits
  refine wpAny_bind (wpAny_nsGet hns ?_)
  rw [hnone]
  exact wpAny_pure h
theorem long_text {M : Model} {A : Around} {E : Value → Shared → Prop} {s : Shared} {Q : Value → Shared → Prop} {v : Value} {text : List Nat} {n : Int} (hn : s.heap.NoDigits)
    (hl : ¬ (text.takeWhile (· != 0)).length ≤ 640) (hr : (int_private% "readNumeral") 4300 10 (text.takeWhile (· != 0)) = (int_private% "Numeral.value") n)
    (ha : ((text.takeWhile (· != 0)).length == text.length) = true) (h : Q (.int n s.toks) { s with toks := s.toks + 1 }) :
    wpAny M A ((int_private% "intFromText") v text 10) Q E s := by
  obtain ⟨hp, g, d, tk, os⟩ := s
  repeat (any_goals (first
    | assumption
    | (with_reducible refine wpAny_ite_false (decide_eq_false hl) ?_)
    | (with_reducible refine wpAny_ite_true (decide_eq_true ha) ?_)
    | (with_reducible refine limit_here hn ?_)
    | wp_step))
  rw [hr]
  dsimp only
  repeat (any_goals (first
    | assumption
    | (with_reducible refine wpAny_ite_true (decide_eq_true ha) ?_)
    | (with_reducible refine wpAny_ite_true ha ?_)
    | wp_step))
structure Hidden (p : Prop) : Prop where
  out : p
theorem meets_long {x : PySem.Str} {u : Tok} {n : Int} (hl : ¬ (numSeenOf x).length ≤ 640) (hx : x.length ≤ sizeLine) (hn : PySem.intText? x = some n) :
    Meets (Builtin.«int.__new__» ⟨[.type "int", .str x u], []⟩) (fun _ R s => s.heap.NoDigits ∧ R (.ok (.ret (.int n s.toks))) { s with toks := s.toks + 1 }) := fun prog w A R s hS => by
  obtain ⟨hd, h⟩ := hS
  have f1 := F.conv_sub_int
  have f2 := F.madeHere_int
  have f3 := PySem.W.KIN.str_int
  have f4 := PySem.W.KIN.str_idx
  have f5 := PySem.W.KIN.str_trunc
  have f6 : typeOf (.str x u) = pure (.type "str") := rfl
  have hr : (int_private% "readNumeral") 4300 10 (numSeenOf x) = (int_private% "Numeral.value") n ∧ ((numSeenOf x).length == (numTextOf x).length) = true := by
    rcases read4300 x hx with ⟨m, h1, h2, h3⟩ | ⟨h1, _⟩
    · rw [hn] at h1
      injection h1 with h1
      subst h1
      exact ⟨h3, h2⟩
    · rw [hn] at h1
      cases h1
  have hk := Hidden.mk (And.intro hl hr)
  clear hl hr hn hx
  obtain ⟨hp, g, d, tk, os⟩ := s
  repeat (any_goals (first
    | assumption
    | ((with_reducible show wpAny _ _ ((int_private% "intFromText") _ _ _) _ _ _); refine long_text hd hk.out.1 hk.out.2.1 hk.out.2.2 ?_)
    | wp_step))
end WW

set_option maxHeartbeats 4000000
namespace WW
open PySem PySem.Spec PyProof.Rows L2
section
variable {X : Cx}
def rIntW : List V → Hp → VK → Prop := fun xs H Q => ∃ a, xs = [.str a] ∧ (∀ c ∈ a.cps.toList, c = 45 ∨ (48 ≤ c ∧ c ≤ 57)) ∧ a.length ≤ sizeLine ∧ ∃ n, PySem.intText? a = some n ∧ Q (.int n) H
theorem call_int_strW (d : digB X.K = true) : CallR X (.type "int") rIntW := by
  intro pins s σ H xs us Q I r h
  obtain ⟨a, rfl, hs, hl, n, hn, hq⟩ := h
  obtain ⟨u, rfl, t, rfl⟩ := vals1 r
  by_cases h6 : (numSeenOf a).length ≤ 640
  · have h7 : a.length ≤ 640 := by
      rw [(numText_signs hs).2] at h6
      exact h6
    exact PySem.W.KIN.call_text hn h7 ⟨.int n, H, I.tok _, ⟨_, rfl⟩, hq⟩
  · exact call_int_1 (meets_long h6 hl hn) ⟨noDigits_of I.kIn d, ⟨typeIs_int _ _ _, .int n, H, I.tok _, ⟨_, rfl⟩, hq⟩⟩
/-! ### text times int -/
theorem rep_toList (n : Nat) (l : List Nat) : (((List.replicate n l.toArray).foldl (· ++ ·) #[]) : Array Nat).toList = (List.replicate n l).flatten := by
  have g : ∀ (n : Nat) (acc : Array Nat), ((List.replicate n l.toArray).foldl (· ++ ·) acc).toList = acc.toList ++ (List.replicate n l).flatten := by
    intro n
    induction n with
    | zero => intro acc; simp
    | succ n ih =>
      intro acc
      rw [List.replicate_succ, List.foldl_cons, ih, List.replicate_succ, List.flatten_cons]
      simp [List.append_assoc]
  rw [g]
  simp
def repS (z : Str) (n : Nat) : Str := ⟨((List.replicate n z.cps.toList).flatten).toArray⟩
def rRepS : R2 := fun x y H Q => ∃ z n, x = .str z ∧ y = .int n ∧ 1 < n ∧ 1 ≤ z.length ∧ (z.length : Int) * n ≤ 16000000 ∧ Q (.str (repS z n.toNat)) H
theorem op_repS : OpR X (binaryOp .Mult) rRepS := by
  intro pins s σ H x y v u Q I rx ry h
  obtain ⟨z, n, rfl, rfl, h1, h0, h2, hq⟩ := h
  obtain ⟨t, rfl⟩ := rx
  obtain ⟨t', rfl⟩ := ry
  have hz1 : (1 : Int) ≤ z.length := by omega
  have hn : n ≤ 16000000 := by
    have := Int.mul_le_mul_of_nonneg_right hz1 (show 0 ≤ n by omega)
    omega
  have hlen : z.length * n.toNat ≤ 16000000 := by
    have e : ((z.length * n.toNat : Nat) : Int) = (z.length : Int) * n := by
      rw [Int.natCast_mul, Int.toNat_of_nonneg (by omega)]
    omega
  have c1 : ¬ n < 1 := by omega
  have c2 : (n == 1 || z.length == 0) = false := by
    have a1 : (n == 1) = false := beq_eq_false_iff_ne.mpr (by omega)
    have a2 : (z.length == 0) = false := beq_eq_false_iff_ne.mpr (by omega)
    rw [a1, a2]; rfl
  refine PySem.P.mul_str ?_ (fun _ _ => ?_) (fun _ _ => ?_) ?_
  · rw [decide_eq_false (by omega), decide_eq_false (by omega)]; rfl
  · have : (z.length : Int) ≤ (2 ^ 63 - 1) / n := by
      rw [Int.le_ediv_iff_mul_le (by omega)]
      omega
    omega
  · show decide (z.length * n.toNat > sizeLine) = false
    exact decide_eq_false (by rw [sizeLine_eq]; omega)
  · rw [if_neg c1, if_neg (by rw [c2]; exact Bool.false_ne_true)]
    have e : (⟨(List.replicate n.toNat z.cps).foldl (· ++ ·) #[]⟩ : Str) = repS z n.toNat := by
      apply TL.ext_tl
      show ((List.replicate n.toNat z.cps).foldl (· ++ ·) #[]).toList = ((List.replicate n.toNat z.cps.toList).flatten).toArray.toList
      have := rep_toList n.toNat z.cps.toList
      simpa using this
    rw [e]
    refine ⟨?_, .str _, H, I.tok _, ⟨_, rfl⟩, hq⟩
    have e2 : (repS z n.toNat).length = z.length * n.toNat := by
      show ((List.replicate n.toNat z.cps.toList).flatten).toArray.size = z.cps.size * n.toNat
      simp [List.length_flatten, Nat.mul_comm]
    rw [e2, sizeLine_eq]
    omega
theorem iop_mulW : OpR X (inplaceOp .Mult) (rI CMulW fun i j => .int (i * j)) := opI fun _ _ _ _ _ _ _ hc q => imul_int q hc.ok
end
/-! ### enumerate(text): each sign in a new pair -/
def IteS (z : Str) : It :=
  ⟨fun i _ => i < z.cps.size, fun i H v H' => ∃ T c, v = .ref T ∧ H T = none ∧ z.cps[i]? = some c ∧ H' = upd H T (.tup [.int (i : Nat), .str ⟨#[c]⟩]), fun i _ => i = z.cps.size⟩
def strTy (ty : String) : Prop := ty = "str_ascii_iterator" ∨ ty = "str_iterator"
theorem draws_str {P : Program} {w : World} {A : Around} (hh : A.handled = none) (it : Addr) (z : Str) (t : Tok) {ty : String} (hty : strTy ty) :
    Draws P w A it [it] z.cps.size (fun i v => ∃ c u, z.cps[i]? = some c ∧ v = .str ⟨#[c]⟩ u) (fun i h => h.IsStrIter it ty z t i) := by
  rcases hty with e | e
  · rw [e]; exact Draws.strAscii hh it z t
  · rw [e]; exact Draws.strWide hh it z t
theorem turn_enumS {P : Program} {w : World} {K : PySem.W.Frag} {elts : List Expr} {kk : Nat} {tpos : Pos} (e it : Addr) (z : Str) (t : Tok) {ty : String} (hty : strTy ty) :
    Turn P w K (.Tuple elts kk tpos) (IteS z) [e, it] e (fun i h => (∃ old, IsEnum h e it ((i : Nat) : Int) old) ∧ h.IsStrIter it ty z t i ∧ e ≠ it) where
  mem := List.mem_cons_self
  obj := fun i h st b hb => by
    obtain ⟨⟨old, he⟩, ⟨o, ho, hc, hd⟩, _⟩ := st
    rcases List.mem_cons.mp hb with q | q
    · subst q
      exact ⟨_, he, fun v r => nomatch r⟩
    · have q := List.mem_singleton.mp q
      subst q
      exact ⟨o, ho, fun v r => by rw [hd] at r; cases r⟩
  keep := fun i h h' st k => by
    obtain ⟨⟨old, he⟩, ⟨o, ho, r⟩, hne⟩ := st
    exact ⟨⟨old, k e (List.mem_cons_self) _ he⟩, ⟨o, k it (List.mem_cons_of_mem _ List.mem_cons_self) o ho, r⟩, hne⟩
  item := by
    intro X hP hw hK hc i pins s σ H E I hf st hg
    subst hP hw hK
    obtain ⟨⟨old, he⟩, hit, hne⟩ := st
    have hel : e < s.heap.objs.size := Heap.lt_size he
    have hil : it < s.heap.objs.size := by
      obtain ⟨_, q, _⟩ := hit
      exact Heap.lt_size q
    have hef : e ∉ [it] := fun q => hne (List.mem_singleton.mp q)
    have D := draws_str (P := X.prog) (w := X.w) (A := X.A.in1) (I.ok.hd hc) it z t hty
    refine wpAny_pyNext_enum_itemD D he hit hg hne hef fun v h' tk hv ho hit' hT hsz hk => ?_
    obtain ⟨c, u, hcx, rfl⟩ := hv
    refine ⟨_, rfl, wpAny_letOwnedTupleGo_enum (s := { s with heap := h', toks := tk + 1 }) ho fun h2 he2 sb => ?_⟩
    have hT2 : h2.get? s.heap.objs.size = some { cls := .type "tuple", data := .seq #[.int i tk, .str ⟨#[c]⟩ u] } := (sb.2 _ (Nat.ne_of_gt hel)).trans hT
    have new : ObjOk X.prog X.w (upd H s.heap.objs.size (.tup [.int (i : Nat), .str ⟨#[c]⟩])) h2 s.heap.objs.size (.tup [.int (i : Nat), .str ⟨#[c]⟩]) :=
      ⟨by show 2 ≤ sizeLine; decide, [.int i tk, .str ⟨#[c]⟩ u], .cons ⟨_, rfl⟩ (.cons ⟨_, rfl⟩ .nil), ⟨_, hT2, rfl, _, rfl⟩⟩
    have out : ∀ b, b ∉ [e, it] → b ≠ e ∧ b ≠ it := fun b hb => ⟨fun q => hb (by rw [q]; exact List.mem_cons_self), fun q => hb (by rw [q]; exact List.mem_cons_of_mem _ List.mem_cons_self)⟩
    have I1 : Inv X pins σ (upd H s.heap.objs.size (.tup [.int (i : Nat), .str ⟨#[c]⟩])) { s with heap := h2, toks := tk + 1 } :=
      I.turnedNew (ch := [e, it]) (fun b ob hb q => (sb.2 b (out b hb).1).trans (hk b ob (out b hb).1 (out b hb).2 q)) hf (Nat.le_refl _) new
    refine ⟨.ref s.heap.objs.size, _, I1, rfl, ⟨_, c, rfl, I.hok.fresh (Nat.le_refl _), hcx, rfl⟩, ⟨⟨.str ⟨#[c]⟩ u, ?_⟩, ?_, hne⟩, fun b hb => ?_⟩
    · have e1 : ((i + 1 : Nat) : Int) = (i : Int) + 1 := by omega
      rw [e1]
      exact he2
    · obtain ⟨oi, q, r⟩ := hit'
      exact ⟨oi, (sb.2 it (Ne.symm hne)).trans q, r⟩
    · have hb' : b < s.heap.objs.size := by
        rcases List.mem_cons.mp hb with q | q
        · rw [q]; exact hel
        · rw [List.mem_singleton.mp q]; exact hil
      rw [upd_ne (Nat.ne_of_lt hb')]
      exact (hf b hb).1
  done := by
    intro X hP hw hK hc i pins s σ H E I hf st hg
    subst hP hw hK
    obtain ⟨⟨old, he⟩, hit, hne⟩ := st
    have hi : i = z.cps.size := hg
    subst hi
    obtain ⟨f0, f1, f2, f3, f4, f5⟩ := hf it (List.mem_cons_of_mem _ List.mem_cons_self)
    have D := draws_str (P := X.prog) (w := X.w) (A := X.A.in1) (I.ok.hd hc) it z t hty
    exact wpAny_pyNext_enum_endD D he hit fun h' eb => ⟨rfl, I.turned (t' := s.toks) (fun b o hb q => eb b o hb q) f0 f1 f3 f4 f5⟩
  self := fun A i s Q E st h => let ⟨⟨_, he⟩, _⟩ := st; wpAny_pyIter_enum he h
def iEnumS (ta : TA) : TI := fun σ H R => ta σ H fun vs H1 => ∃ z, vs = [.str z] ∧ R (IteS z) H1
theorem pi_enumS {X : Cx} {e : Expr} {ta : TA} {p pos tpos : Pos} {elts : List Expr} {kk : Nat} (hg : Gl X "enumerate") (hm : X.mg "enumerate" = none) (ha : PA X [e] ta) (hs : starEach [e] X.env = [(false, eval e X.env)] := by rfl) :
    PI X (.Tuple elts kk tpos) (.Call (.Name "enumerate" p) [e] [] pos) (iEnumS ta) := by
  constructor
  intro pins s σ H R I h
  refine Call_ (ld_blt I hg hm boot_enumerate (PyProof.Rows.callWith_type1 (thn (ha.run pos pins s σ H _ I h) fun us s1 hh => ?_) hs rfl))
  obtain ⟨vs, H1, I1, r1, z, rfl, q⟩ := hh
  obtain ⟨u, rfl, t, rfl⟩ := vals1 r1
  refine PySem.call_enumerate_str fun h' he hit hsz hk => wpAny_pyIter_enum he ?_
  have I2 : Inv X pins σ H1 { s1 with heap := h' } := I1.kept (t' := s1.toks) hk
  have hty : strTy (strIterType z) := by
    unfold strIterType
    split
    · exact .inl rfl
    · exact .inr rfl
  refine ⟨s1.heap.objs.size + 1, [s1.heap.objs.size + 1, s1.heap.objs.size], _, _, H1, rfl, I2, turn_enumS (s1.heap.objs.size + 1) s1.heap.objs.size z t hty, ⟨⟨.none, he⟩, hit, Nat.succ_ne_self _⟩, fun b hb => ?_, q⟩
  have hle : s1.heap.objs.size ≤ b := by
    rcases List.mem_cons.mp hb with q | q
    · rw [q]; exact Nat.le_add_right _ _
    · rw [List.mem_singleton.mp q]; exact Nat.le_refl _
  exact I1.fpOk hle (I1.hok.fresh hle)
theorem walk_enumS {z : Str} : Walk (IteS z) z.cps.size (fun _ => True) (fun i H v H' => ∃ T c, v = .ref T ∧ H T = none ∧ z.cps[i]? = some c ∧ H' = upd H T (.tup [.int (i : Nat), .str ⟨#[c]⟩])) :=
  ⟨fun _ _ hi _ => hi, fun _ _ => rfl, fun _ _ _ _ _ _ y => y⟩
/-! ### repr of data -/
def rRepr (K : PySem.W.Frag) : List V → Hp → VK → Prop := fun xs H Q => ∃ x d, xs = [x] ∧ Dp K H x d ∧ d.showable = true ∧ d.hasDict = false ∧ d.depth ≤ 500 ∧ d.shown.length ≤ sizeLine ∧ Q (.str d.shown) H
theorem call_repr {X : Cx} (hg : X.A.guards = some []) (hu : X.A.units + 1000 < cLine) : CallR X (.builtin "repr") (rRepr X.K) := by
  intro pins s σ H xs us Q I r h
  obtain ⟨x, d, rfl, hx, h1, h2, h3, h4, hq⟩ := h
  obtain ⟨u, rfl, ru⟩ := vals1 r
  cases hx with
  | non =>
    cases ru
    exact PySem.P.repr_of_none ⟨.str _, H, I.tok _, ⟨_, rfl⟩, hq⟩
  | bl b =>
    cases ru
    exact PySem.P.repr_of_bool ⟨.str _, H, I.tok _, ⟨_, rfl⟩, hq⟩
  | int i =>
    obtain ⟨t, rfl⟩ := ru
    have h1' : i.natAbs.log2 < 1920 := by simpa [PyData.showable] using h1
    exact PySem.P.repr_of_int h1' ⟨.str _, H, I.tok _, ⟨_, rfl⟩, hq⟩
  | str z =>
    obtain ⟨t, rfl⟩ := ru
    exact PySem.P.repr_of_str ⟨.str _, H, I.tok _, ⟨_, rfl⟩, hq⟩ h4
  | lst a b =>
    cases ru
    obtain ⟨as, hr⟩ := Dp.reads I _ _ _ (Dp.lst a b) rfl
    exact repr_of_reads' hr h1 (PyData.noDict_hsm h2) hg (by omega) (fun _ _ e => e) (fun h' u tk hk => ⟨.str _, H, I.kept (t' := tk) hk, ⟨_, rfl⟩, hq⟩) h4
  | tup a b =>
    cases ru
    obtain ⟨as, hr⟩ := Dp.reads I _ _ _ (Dp.tup a b) rfl
    exact repr_of_reads' hr h1 (PyData.noDict_hsm h2) hg (by omega) (fun _ _ e => e) (fun h' u tk hk => ⟨.str _, H, I.kept (t' := tk) hk, ⟨_, rfl⟩, hq⟩) h4
end WW

set_option maxHeartbeats 4000000
namespace WW
open PySem PySem.Spec PyProof.Rows L2
/-! ### the head's facts, with the statics' dict beside -/
def partS (n : Nat) (g : Addr → Option Obj) : PySem.W.Frag := He.frG g (cStatics :: He.asD g n)
abbrev AlS : Type := He.AlD × Bool
def obsS (n : Nat) (fa : List He.Fa) (fn : List He.DefD) (g : Addr → Option Obj) : AlS := (He.obsD fa fn (partS n g), digB (partS n g) && exB (partS n g))
def hookS (n : Nat) (fa : List He.Fa) (fn : List He.DefD) : PySem.W.Hook where
  α := AlS
  obs := fun s => obsS n fa fn s.heap.get?
  val := fun _ => (He.valD fn, true)
  says := fun _ h => ∃ K : PySem.W.Frag, K.In h ∧ (He.SaysD fa fn K ∧ (digB K && exB K) = true)
  of := fun _ _ e => ⟨_, He.frG_in, congrArg (fun z : AlS => z.1) e, congrArg (fun z : AlS => z.2) e⟩
  keeps := fun _ _ _ hh k => by
    obtain ⟨K, hK, c⟩ := hh
    exact ⟨K, PySem.W.Frag.In.keeps hK k, c⟩
theorem obsS_eq {n : Nat} {fa : List He.Fa} {fn : List He.DefD} {g : Addr → Option Obj} {s : Shared} (h : ∀ a, g a = s.heap.get? a) : obsS n fa fn g = (hookS n fa fn).obs s := by
  have e : g = s.heap.get? := funext h
  rw [e]
  rfl
/-! ### a law's def, called from the top alone: nothing is being shown then -/
structure LawOk (P : Program) (w : World) (K : PySem.W.Frag) (mg : Str → Option Value) (base : Heap) (fa : Addr) (x : Str) (fd : FuncData) (sp : Sp) : Prop where
  run : ∀ (s : Shared) (H : Hp) (us : List Value) (vs : List V) (Q : VK) (E : XK), Env0 P w K mg base callerA [] s H → BindsTo s fd ⟨us, []⟩ ([x].zip us) → Vals vs us → sp vs H Q E →
    codeAny (model P w) callerA (.call (.ref fa) ⟨us, []⟩) (CR (L2.CX P w) [] P w H s Q E) s
theorem law_run {P : Program} {w : World} {K : PySem.W.Frag} {mg mb : Str → Option Value} {fa a : Addr} {fd : FuncData} {x : Str} {sp : Sp} {s₁ : Shared} {vs : List Value} {ns : List Int}
    (KX : K.In s₁.heap) (G : s₁.heap.Ns mainGlobals mg) (B : s₁.heap.Ns builtinsNs mb) (hmb : ∀ y : Str, y ≠ "__name__" → mb y = bootBuiltins y) (lim : s₁.heap.NoLimit) (hgens : s₁.gens = #[])
    (ha : s₁.heap.get? a = some { cls := .type "list", data := .seq vs.toArray }) (hi : IntsAre vs ns) (hl : ns.length ≤ sizeLine)
    (F : ∀ base : Heap, K.In base → base.Ns mainGlobals mg → LawOk P w K mg base fa x fd sp) (hb : ∀ (s : Shared) (u : Value), BindsTo s fd ⟨[u], []⟩ [(x, u)])
    (hsp : ∀ H : Hp, Only H → SqL K H a (ns.map V.int) → sp [.ref a] H (fun v _ => v = .bl true) fun _ _ _ => False) :
    codeAny (model P w) callerA (.call (.ref fa) ⟨[.ref a], []⟩) (fun r s' => r = .ok (.ret (.bool true)) ∧ OldK s₁.heap s'.heap ∧ s'.os = s₁.os ∧ AllBare s'.gens) s₁ := by
  have rv := vals_ints hi
  have lv := hi.length
  have go : ∀ H : Hp, Only H → SqL K H a (ns.map V.int) → HOk P w H s₁.heap → (∀ b, H b ≠ none → b = a) → (H a ≠ none → K.lookup a = none) →
      codeAny (model P w) callerA (.call (.ref fa) ⟨[.ref a], []⟩) (fun r s' => r = .ok (.ret (.bool true)) ∧ OldK s₁.heap s'.heap ∧ s'.os = s₁.os ∧ AllBare s'.gens) s₁ := by
    intro H hO hS hok only kno
    have inB : ∀ {b : Addr} {o : Obj}, s₁.heap.get? b = some o → H b = none → (hidT s₁.heap H).get? b = some o := fun e n => hidT_get e n
    have dic : ∀ {b : Addr} {o : Obj} {es : Array DictEntry} {ep : Nat}, s₁.heap.get? b = some o → o.data = .dict es ep → H b = none := by
      intro b o es ep e d
      cases q : H b with
      | none => rfl
      | some u =>
        have e' := only b (by rw [q]; exact fun z => nomatch z)
        subst e'
        rw [ha] at e
        cases e
        cases (show Data.seq vs.toArray _ = Data.dict es ep from d)
    have nsB : ∀ {b : Addr} {m : Str → Option Value}, s₁.heap.Ns b m → (hidT s₁.heap H).Ns b m := by
      rintro b m ⟨o, es, ep, e, d, r⟩
      exact ⟨o, es, ep, inB e (dic e d), d, r⟩
    have kB : K.In (hidT s₁.heap H) := by
      intro b o e
      refine inB (KX b o e) ?_
      cases q : H b with
      | none => rfl
      | some u =>
        have e' := only b (by rw [q]; exact fun z => nomatch z)
        subst e'
        rw [kno (by rw [q]; exact fun z => nomatch z)] at e
        cases e
    have md : Mod K mg (hidT s₁.heap H) := by
      refine ⟨kB, nsB G, ⟨mb, nsB B, hmb⟩, ?_⟩
      obtain ⟨mc, h1, h2⟩ := lim
      exact ⟨mc, nsB h1, h2⟩
    have e0 : Env0 P w K mg (hidT s₁.heap H) callerA [] s₁ H :=
      { frames := rfl, mod := md, bs := fun b o e => of_hidT e, bsz := Nat.le_of_eq (hidT_size _ _), funs := trivial, frf := (fun b hb => nomatch (show b ∈ ([] : List Addr) from hb)), hok := hok, bare := .of_eq hgens }
    refine codeAny_mono ((F _ kB (nsB G)).run s₁ H [.ref a] [.ref a] _ _ e0 (hb s₁ (.ref a)) (.cons rfl .nil) (hsp H hO hS)) fun r s' h => ?_
    cases r with
    | error e =>
      obtain ⟨_, _, _, _, _, _, _, _, _, _, _, _, z⟩ := h
      exact z.elim
    | ok fl =>
      cases fl with
      | next => exact h.elim
      | brk => exact h.elim
      | cont => exact h.elim
      | ret u =>
        obtain ⟨v, H', os, bare, un, hok', r', q⟩ := h
        have q' : v = .bl true := q
        subst q'
        obtain rfl : u = Value.bool true := r'
        refine ⟨rfl, OldK.of_keep fun b o e => ?_, os, bare⟩
        cases q : H b with
        | none => exact un.keep b o e q (fun z => nomatch (show b ∈ ([] : List Addr) from z)) (fun z => nomatch z)
        | some u =>
          rcases hO b with z | ⟨ob, xs, z⟩
          · rw [q] at z
            cases z
          · obtain ⟨e1, _⟩ := hok b _ z
            obtain ⟨e2, _⟩ := hok' b _ (un.frzs b ob _ z)
            rw [e] at e1
            cases e1
            exact e2
  cases hk : K.lookup a with
  | some o =>
    have e := KX a o hk
    rw [ha] at e
    cases e
    refine go (fun _ => none) (fun _ => .inl rfl) (.inr ⟨_, vs.toArray, _, hk, rfl, rfl, rfl, ?_, by simpa using rv⟩) (fun b u z => nomatch (show (none : Option HO) = some u from z)) (fun b z => absurd rfl z) (fun z => absurd rfl z)
    rw [List.size_toArray, lv]
    exact hl
  | none =>
    let H0 : Hp := fun b => if b = a then some (.frz { cls := .type "list", data := .seq vs.toArray } (.lst (ns.map V.int))) else none
    have h0 : H0 a = some (.frz { cls := .type "list", data := .seq vs.toArray } (.lst (ns.map V.int))) := if_pos rfl
    have h1 : ∀ b, b ≠ a → H0 b = none := fun b n => if_neg n
    refine go H0 (fun b => ?_) (.inl (.inr ⟨_, h0⟩)) (fun b u z => ?_) (fun b z => ?_) fun _ => hk
    · by_cases q : b = a
      · subst q
        exact .inr ⟨_, _, h0⟩
      · exact .inl (h1 b q)
    · by_cases q : b = a
      · subst q
        rw [h0] at z
        cases z
        exact ⟨ha, by rw [List.length_map]; exact hl, vs, _, rv, ha⟩
      · rw [h1 b q] at z
        cases z
    · by_cases q : b = a
      · exact q
      · exact absurd (h1 b q) z
theorem law_walk {l : PySem.W.OpenLaw} {n : Nat} {q : Program} {loose : List Str} {XP : (Str → Option Value) → Heap → Prop} {YP : World → Heap → Prop} {d : DefRec} {x : Str}
    (hn : l.most = some n) (hn2 : n ≤ sizeLine) (hdf : d.params.defaults = [])
    (F : ∀ (w : World) (mg : Str → Option Value) (fa : Addr) (h : Heap), YP w h → h.Ns mainGlobals mg → mg d.name = some (.ref fa) →
      ∃ (K : PySem.W.Frag) (fd : FuncData) (sp : Sp), K.In h ∧ (∀ (s : Shared) (u : Value), BindsTo s fd ⟨[u], []⟩ [(x, u)]) ∧
        (∀ (H : Hp) (a : Addr) (ns : List Int), ns.length ≤ n → Only H → SqL K H a (ns.map V.int) → sp [.ref a] H (fun v _ => v = .bl true) fun _ _ _ => False) ∧
        ∀ base : Heap, K.In base → base.Ns mainGlobals mg → LawOk l.prog w K mg base fa x fd sp) :
    PySem.W.WalkO q loose XP YP l.row.toRowW d [] (fun f vs => PySem.call f vs) := by
  refine Att.attach_call hn hdf fun w s₀ s₁ mg mb fa o pm cd doc a vs ns G Y _ _ _ hmg hobj hints hlen hg => ?_
  obtain ⟨K, fd, sp, KX, hb, hsp, hF⟩ := F w mg fa _ Y G.T.g hmg
  exact law_run KX G.T.g G.T.b G.T.builtins G.T.nolimit hg hobj hints (Nat.le_trans hlen hn2) hF hb fun H hO hS => hsp H a ns hlen hO hS
section
variable {fa : List He.Fa} {fn : List He.DefD} {P : Program} {w : World} {K : PySem.W.Frag} {mg : Str → Option Value} {base : Heap}
/-- THE RULE for the law's def -/
theorem okLaw (W : Wd fa fn K mg) {d : He.DefD} (i : Nat) {x : Str} {N : List Str} {k : Nat} {sp : Sp} (S : FnScope N [x] d.scope) (hr : Room (k + 1) callerA) (hi : fn[i]? = some d := by rfl) (hd : d.dfl = [] := by rfl)
    (len : ∀ vs H Q E, sp vs H Q E → vs.length = [x].length)
    (hbody : ∀ (base : Heap) (cdv : Value) (s : Shared) (H : Hp) (vs : List V) (Q : VK) (E : XK), Room k (callerA.deeper (envOfC d.qual d.scope s.heap.objs.size (He.fAd K d.at_) cdv)) → N.Nodup → (callerA.deeper (envOfC d.qual d.scope s.heap.objs.size (He.fAd K d.at_) cdv)).units + 1 < cLine →
      Takes (cxOf (L2.CX P w) P w K mg base N d.qual d.scope (He.fAd K d.at_) cdv callerA [] s H E) (fun cls dd _ H => E cls dd H) →
      PassesOwn (model P w) (callerA.deeper (envOfC d.qual d.scope s.heap.objs.size (He.fAd K d.at_) cdv)) (envOfC d.qual d.scope s.heap.objs.size (He.fAd K d.at_) cdv) (cxOf (L2.CX P w) P w K mg base N d.qual d.scope (He.fAd K d.at_) cdv callerA [] s H E).xe → sp vs H Q E →
      ∃ t, PSs (cxOf (L2.CX P w) P w K mg base N d.qual d.scope (He.fAd K d.at_) cdv callerA [] s H E) d.body t ∧ t { nx := fun _ H' => Q .non H', rt := Q } (start N vs) H) :
    ∃ fd, FunD K d.name d.qual d.params d.body d.scope [] (d.kws K) (He.fAd K d.at_) fd ∧ ∀ base : Heap, LawOk P w K mg base (He.fAd K d.at_) x fd sp := by
  obtain ⟨fd, F⟩ := W.c.def_ i hi
  have e : d.dvs K = [] := by unfold He.DefD.dvs; rw [hd]; rfl
  rw [e] at F
  refine ⟨fd, F, fun base => ⟨?_⟩⟩
  obtain ⟨oc, od, dV, kV, doc, pm, an, cdv, ct, osl, rfl, lk, hcd, _, _⟩ := F.ex
  intro s H us vs Q E e0 hb r hsp
  have hl := len _ _ _ _ hsp
  have kept : ∀ b o, base.get? b = some o → s.heap.get? b = some o := fun b o q => (e0.bs b o q).1
  have KX : K.In s.heap := e0.mod.kin.keeps kept
  have lim : s.heap.NoLimit := e0.mod.nolimit.keeps kept
  have kinds : ∀ y ∈ [x].zip us, d.scope.names.lookup y.1 = some .local ∨ (d.scope.names.lookup y.1 = some .cell ∧ ((cellsFrom (s.heap.objs.size + 1) d.scope.names []).lookup y.1).isSome = true) := by
    rintro ⟨n, v⟩ hy
    rcases S.par n (List.of_mem_zip hy).1 with q | q
    · exact .inl q
    · exact .inr ⟨q, PySem.W.cellsFrom_some _ _ _ (.inl q)⟩
  refine codeAny_call_function hr.depth (KX _ _ lk) rfl S.co S.gen rfl (PySem.W.codeRec_of KX hcd) (hb _ _ _ _ ?_)
  refine wpAny_newFunctionEnv_cells S.kind kinds fun env he s1 z => ?_
  subst he
  refine ⟨lim.keeps z.toInCall.keep, codeAny_func ?_⟩
  obtain ⟨t, ht, hq⟩ := hbody base cdv s H vs Q E (hr.deeper _) S.nd (hu_of (hr.deeper _)) (takes_of rfl rfl rfl rfl) (passes_of rfl) hsp
  have I : Inv (cxOf (L2.CX P w) P w K mg base N d.qual d.scope (He.fAd K d.at_) cdv callerA [] s H E) [] (L2.start N vs) H s1 := inv_start S hr.hd e0 hl r z
  refine wpAny_mono (ht.run [] s1 (L2.start N vs) H _ I hq) (fun fl s' hs => ?_) fun e s' hs => hs
  have fin : ∀ {σ' : L2.St} {H' : Hp} {v : V} {u : Value}, Inv (cxOf (L2.CX P w) P w K mg base N d.qual d.scope (He.fAd K d.at_) cdv callerA [] s H E) [] σ' H' s' → RelV v u → Q v H' → CE [] P w H s Q u s' :=
    fun {σ' H' v u} J rv q => ⟨v, H', J.os, J.bare, J.base, J.hok, rv, q⟩
  cases fl with
  | ret u =>
    obtain ⟨v, σ', H', J, rv, q⟩ := hs
    exact fin J rv q
  | next =>
    obtain ⟨σ', H', J, q⟩ := hs
    exact fin (v := V.non) (u := Value.none) J rfl q
  | brk =>
    obtain ⟨_, _, _, q⟩ := hs
    exact q.elim
  | cont =>
    obtain ⟨_, _, _, q⟩ := hs
    exact q.elim
end
end WW

set_option maxHeartbeats 4000000
namespace WW
open PySem PySem.Spec PyProof.Rows L2
/-! ### signs -/
def isLow (c : Nat) : Bool := decide (97 ≤ c) && decide (c ≤ 122)
def isDig (c : Nat) : Bool := decide (48 ≤ c) && decide (c ≤ 57)
def isBrk (c : Nat) : Bool := c == 91 || c == 93 || c == 44
theorem low_lit : (Str.ofString "abcdefghijklmnopqrstuvwxyz").cps.toList = [97,98,99,100,101,102,103,104,105,106,107,108,109,110,111,112,113,114,115,116,117,118,119,120,121,122] := by decide +kernel
theorem dig_lit : (Str.ofString "0123456789").cps.toList = [48,49,50,51,52,53,54,55,56,57] := by decide +kernel
theorem brk_lit : (Str.ofString "[],").cps.toList = [91, 93, 44] := by decide +kernel
theorem brk4_lit : (Str.ofString "[],;").cps.toList = [91, 93, 44, 59] := by decide +kernel
theorem in_low (c : Nat) : decide (c ∈ (Str.ofString "abcdefghijklmnopqrstuvwxyz").cps.toList) = isLow c := by
  rw [low_lit, Bool.eq_iff_iff]
  simp only [List.mem_cons, List.not_mem_nil, or_false, decide_eq_true_eq, isLow, Bool.and_eq_true]
  omega
theorem in_dig (c : Nat) : decide (c ∈ (Str.ofString "0123456789").cps.toList) = isDig c := by
  rw [dig_lit, Bool.eq_iff_iff]
  simp only [List.mem_cons, List.not_mem_nil, or_false, decide_eq_true_eq, isDig, Bool.and_eq_true]
  omega
theorem in_brk (c : Nat) : decide (c ∈ (Str.ofString "[],").cps.toList) = isBrk c := by
  rw [brk_lit, Bool.eq_iff_iff]
  simp only [List.mem_cons, List.not_mem_nil, or_false, decide_eq_true_eq, isBrk, Bool.or_eq_true, beq_iff_eq]
  omega
theorem in_brk4 (c : Nat) : decide (c ∈ (Str.ofString "[],;").cps.toList) = (isBrk c || c == 59) := by
  rw [brk4_lit, Bool.eq_iff_iff]
  simp only [List.mem_cons, List.not_mem_nil, or_false, decide_eq_true_eq, isBrk, Bool.or_eq_true, beq_iff_eq]
  omega
theorem mem_low (c : Nat) : (c ∈ (Str.ofString "abcdefghijklmnopqrstuvwxyz").cps.toList) = (isLow c = true) := propext (by rw [← in_low, decide_eq_true_eq])
theorem mem_dig (c : Nat) : (c ∈ (Str.ofString "0123456789").cps.toList) = (isDig c = true) := propext (by rw [← in_dig, decide_eq_true_eq])
theorem mem_brk (c : Nat) : (c ∈ (Str.ofString "[],").cps.toList) = (isBrk c = true) := propext (by rw [← in_brk, decide_eq_true_eq])
theorem mem_brk4 (c : Nat) : (c ∈ (Str.ofString "[],;").cps.toList) = ((isBrk c || c == 59) = true) := propext (by rw [← in_brk4, decide_eq_true_eq])
theorem sgn_inj (a b : Nat) : ((⟨#[a]⟩ : Str) = ⟨#[b]⟩) = (a = b) := propext ⟨fun h => by injection h with h; simpa using h, fun h => by rw [h]⟩
/-- a text of codes -/
def S (l : List Nat) : Str := ⟨l.toArray⟩
theorem S_tl (z : Str) : S z.cps.toList = z := rfl
theorem tl_S (l : List Nat) : (S l).cps.toList = l := rfl
theorem S_inj {l m : List Nat} : S l = S m ↔ l = m := ⟨fun h => by have := congrArg (fun z : Str => z.cps.toList) h; simpa [S] using this, fun h => by rw [h]⟩
theorem len_S (l : List Nat) : (S l).length = l.length := rfl
theorem len_str (z : Str) : z.length = z.cps.toList.length := rfl
theorem str_ext {y z : Str} (h : y.cps.toList = z.cps.toList) : y = z := TL.ext_tl h
theorem S_app (l m : List Nat) : S l ++ S m = S (l ++ m) := str_ext (by show TL.tl (S l ++ S m) = _; rw [TL.tl_append]; rfl)
/-! ### words and small numbers -/
def wordL (l : List Nat) : Bool := decide (1 ≤ l.length) && decide (l.length ≤ 12) && (match l with | c :: _ => isLow c | [] => false) && l.all fun c => isLow c || isDig c
def wordD : PyData → Bool
  | .str z => wordL z.cps.toList
  | _ => false
def bigP (n : Nat) : Int := (10 ^ 32) ^ n
def shortI (i : Int) : Bool := decide (-(bigP 125) < i) && decide (i < bigP 125)
def shortD : PyData → Bool
  | .int i => shortI i
  | _ => false
theorem bigP_succ (n : Nat) : bigP (n + 1) = bigP n * 10 ^ 32 := Int.pow_succ ..
theorem bigP_pos (n : Nat) : 0 < bigP n := Int.pow_pos (by decide)
theorem bigP_mono {m n : Nat} (h : m ≤ n) : bigP m ≤ bigP n := by
  induction n with
  | zero => have : m = 0 := by omega
            subst this; exact Int.le_refl _
  | succ n ih =>
    by_cases e : m = n + 1
    · subst e; exact Int.le_refl _
    · refine Int.le_trans (ih (by omega)) ?_
      rw [bigP_succ]
      have := bigP_pos n
      generalize bigP n = x at *
      omega
theorem bigP_bits (n : Nat) : (bigP n).natAbs < 2 ^ (107 * n + 1) := by
  induction n with
  | zero => decide
  | succ n ih =>
    rw [bigP_succ, Int.natAbs_mul]
    have e : 2 ^ (107 * (n + 1) + 1) = 2 ^ (107 * n + 1) * 2 ^ 107 := by rw [← Nat.pow_add]; congr 1
    rw [e]
    exact Nat.mul_lt_mul'' ih (by decide)
/-! ### data as it stands, kept -/
/-- no list, no dict within -/
def imm : PyData → Bool
  | .tuple ds => immAll ds
  | .list _ => false
  | .dict _ => false
  | _ => true
where immAll : List PyData → Bool
  | [] => true
  | d :: ds => imm d && immAll ds
/-- tuples are kept -/
def Tx (H H' : Hp) : Prop := ∀ a xs, (H a = some (.tup xs) → H' a = some (.tup xs)) ∧ ∀ o, H a = some (.frz o (.tup xs)) → H' a = some (.frz o (.tup xs))
theorem Tx.refl (H : Hp) : Tx H H := fun _ _ => ⟨fun h => h, fun _ h => h⟩
theorem Tx.trans {H H1 H2 : Hp} (a : Tx H H1) (b : Tx H1 H2) : Tx H H2 := fun p xs => ⟨fun h => (b p xs).1 ((a p xs).1 h), fun o h => (b p xs).2 o ((a p xs).2 o h)⟩
theorem Tx.of {H H' : Hp} (s : Same H H') : Tx H H' := fun p xs => ⟨fun h => s _ _ h, fun _ h => s _ _ h⟩
/-- what is no tuple -/
def noTup : HO → Prop
  | .tup _ => False
  | .frz _ (.tup _) => False
  | _ => True
theorem Tx.up {H : Hp} {p : Addr} {o u : HO} (h : H p = some o) (n : noTup o) : Tx H (upd H p u) := fun a xs => by
  refine ⟨fun e => ?_, fun o' e => ?_⟩
  · rw [upd_ne]
    · exact e
    · rintro rfl
      rw [h] at e
      cases e
      exact n
  · rw [upd_ne]
    · exact e
    · rintro rfl
      rw [h] at e
      cases e
      exact n
theorem Tx.nw {H : Hp} {p : Addr} {u : HO} (h : H p = none) : Tx H (upd H p u) := fun a xs => by
  refine ⟨fun e => ?_, fun o' e => ?_⟩ <;> (rw [upd_ne (ne_of_none e h)]; exact e)
theorem Tx.sqt {K : PySem.W.Frag} {H H' : Hp} {a : Addr} {xs : List V} (t : Tx H H') (h : SqT K H a xs) : SqT K H' a xs := by
  rcases h with (h | ⟨o, h⟩) | h
  · exact .inl (.inl ((t a xs).1 h))
  · exact .inl (.inr ⟨o, (t a xs).2 o h⟩)
  · exact .inr h
section
variable {K : PySem.W.Frag} {H H' : Hp}
mutual
theorem Dp.tx (t : Tx H H') : ∀ (d : PyData) (v : V), imm d = true → Dp K H v d → Dp K H' v d
  | .none, _, _, h => by cases h; exact .non
  | .bool _, _, _, h => by cases h; exact .bl _
  | .int _, _, _, h => by cases h; exact .int _
  | .str _, _, _, h => by cases h; exact .str _
  | .list _, _, i, _ => by simp [imm] at i
  | .dict _, _, i, _ => by simp [imm] at i
  | .tuple ds, _, i, h => by
    cases h with
    | tup h1 h2 => exact .tup (t.sqt h1) (Dp.txs t ds _ (by simpa [imm] using i) h2)
theorem Dp.txs (t : Tx H H') : ∀ (ds : List PyData) (vs : List V), imm.immAll ds = true → DpAll K H vs ds → DpAll K H' vs ds
  | [], _, _, h => by cases h; exact .nil
  | d :: ds, _, i, h => by
    cases h with
    | cons h1 h2 =>
      obtain ⟨i1, i2⟩ := Bool.and_eq_true_iff.mp (show (imm d && imm.immAll ds) = true by simpa [imm.immAll] using i)
      exact .cons (Dp.tx t d _ i1 h1) (Dp.txs t ds _ i2 h2)
end
mutual
theorem Dp.sm (t : Same H H') : ∀ (d : PyData) (v : V), Dp K H v d → Dp K H' v d
  | .none, _, h => by cases h; exact .non
  | .bool _, _, h => by cases h; exact .bl _
  | .int _, _, h => by cases h; exact .int _
  | .str _, _, h => by cases h; exact .str _
  | .list ds, _, h => by
    cases h with
    | lst h1 h2 => exact .lst (t.seq h1) (Dp.sms t ds _ h2)
  | .dict _, _, h => by cases h
  | .tuple ds, _, h => by
    cases h with
    | tup h1 h2 => exact .tup ((Tx.of t).sqt h1) (Dp.sms t ds _ h2)
theorem Dp.sms (t : Same H H') : ∀ (ds : List PyData) (vs : List V), DpAll K H vs ds → DpAll K H' vs ds
  | [], _, h => by cases h; exact .nil
  | d :: ds, _, h => by
    cases h with
    | cons h1 h2 => exact .cons (Dp.sm t d _ h1) (Dp.sms t ds _ h2)
end
theorem DpAll.length {vs : List V} {ds : List PyData} (h : DpAll K H vs ds) : vs.length = ds.length := by
  induction ds generalizing vs with
  | nil => cases h; rfl
  | cons d ds ih => cases h with
    | cons _ h2 => simp [ih h2]
theorem DpAll.get {vs : List V} {ds : List PyData} (h : DpAll K H vs ds) {i : Nat} {v : V} (e : vs[i]? = some v) : ∃ d, ds[i]? = some d ∧ Dp K H v d := by
  induction ds generalizing vs i with
  | nil => cases h; simp at e
  | cons d ds ih => cases h with
    | cons h1 h2 =>
      cases i with
      | zero => simp at e; subst e; exact ⟨d, rfl, h1⟩
      | succ i => exact ih h2 (by simpa using e)
theorem DpAll.app {vs us : List V} {ds es : List PyData} (h : DpAll K H vs ds) (g : DpAll K H us es) : DpAll K H (vs ++ us) (ds ++ es) := by
  induction ds generalizing vs with
  | nil => cases h; exact g
  | cons d ds ih => cases h with
    | cons h1 h2 => exact .cons h1 (ih h2)
theorem immAll_app (ds es : List PyData) : imm.immAll (ds ++ es) = (imm.immAll ds && imm.immAll es) := by
  induction ds with
  | nil => simp [imm.immAll]
  | cons d ds ih => simp [imm.immAll, ih, Bool.and_assoc]
end
theorem Same.new {H : Hp} {p : Addr} {o : HO} (h : H p = none) : Same H (upd H p o) := fun b u e => by rw [upd_ne (ne_of_none e h)]; exact e
/-- what H does not know may change -/
theorem Same.mut {H H' : Hp} {p : Addr} {o : HO} (s : Same H H') (h : H p = none) : Same H (upd H' p o) := fun b u e => by rw [upd_ne (ne_of_none e h)]; exact s b u e
theorem Same.none {H H' : Hp} {p : Addr} (s : Same H H') (h : H' p = Option.none) : H p = Option.none := s.free h
/-- all([f(c) for c in a text]), the element read without a change -/
theorem lc_str {z : Str} {f : Nat → V} {te : TE} {vs : List Nat} {σ : L2.St} {H1 : Hp} {D : Addr} {Qd : Hp → Prop} {j : Nat} (hz : z.length ≤ 1000000)
    (hw : ∀ x, wipe ((wipe σ vs).set j (some x)) vs = wipe σ vs)
    (he : ∀ c H (R : VK), R (f c) H → te ((wipe σ vs).set j (some (.str ⟨#[c]⟩))) H R)
    (hq : Qd (upd H1 D (.lst (z.cps.toList.map f)))) :
    ∃ W : Nat → Nat → Hp → Prop, (∃ m, W 0 m (upd H1 D (.lst []))) ∧ ∀ i m H, W i m H →
      ((Its z).stop i H ∧ Qd H) ∨ ((Its z).go i H ∧ ∃ Nx : Hp → Prop, (∀ H', Nx H' → ∃ m', m' < m ∧ W (i + 1) m' H') ∧ ∀ x H', (Its z).yld i H x H' → gName j x (wipe σ vs) H' fun σ2 H2 => wipe σ2 vs = wipe σ vs ∧ tYes σ2 H2 fun b H3 =>
        if b = true then te σ2 H3 fun y H4 => ∃ acc, H4 D = some (.lst acc) ∧ acc.length < sizeLine ∧ Nx (upd H4 D (.lst (acc ++ [y]))) else Nx H3) := by
  refine lc_it (walk_str (z := z)) (fun i H => H = upd H1 D (.lst ((z.cps.toList.map f).take i))) (by rw [List.take_zero]) (fun _ _ _ _ => trivial) ?_ ?_
  · rintro i x H H' hi rfl ⟨rfl, c, hc, rfl⟩
    refine ⟨hw _, ?_⟩
    show te ((wipe σ vs).set j (some (.str ⟨#[c]⟩))) _ _
    refine he c _ _ ⟨_, upd_same, ?_, ?_⟩
    · rw [List.length_take, List.length_map, sizeLine_eq]
      have : z.cps.toList.length = z.length := rfl
      omega
    · rw [upd_upd]
      congr 2
      have e : (z.cps.toList.map f)[i]? = some (f c) := by
        rw [List.getElem?_map]
        have : z.cps.toList[i]? = some c := by simpa using hc
        rw [this]
        rfl
      rw [List.take_succ, e]
      rfl
  · rintro H rfl
    have e : (z.cps.toList.map f).take z.cps.size = z.cps.toList.map f := List.take_of_length_le (by simp)
    rw [e]
    exact hq
theorem tLc_str {z : Str} {f : Nat → V} {ta te : TE} {vs : List Nat} {σ : L2.St} {H : Hp} {Q : VK} {j : Nat} (hz : z.length ≤ 1000000) (hta : ∀ R : VK, R (.str z) H → ta σ H R)
    (hw : ∀ x, wipe ((wipe σ vs).set j (some x)) vs = wipe σ vs)
    (he : ∀ c H (R : VK), R (f c) H → te ((wipe σ vs).set j (some (.str ⟨#[c]⟩))) H R)
    (hq : ∀ D, H D = none → Q (.ref D) (upd H D (.lst (z.cps.toList.map f)))) : tLc (iStr ta) (gName j) tYes te vs σ H Q :=
  hta _ ⟨z, rfl, fun D hD => lc_str (Qd := fun H' => Q (.ref D) H') hz hw he (hq D hD)⟩
/-! ### loops, folded -/
theorem tFor_of {J : It} {n : Nat} {G : Hp → Prop} {Y : Nat → Hp → V → Hp → Prop} {wi : TI} {g : TG} {tb : TS} {D : Ends} {σ : L2.St} {H H1 : Hp} (wk : Walk J n G Y) (hwi : ∀ R : It → Hp → Prop, R J H1 → wi σ H R) (Pv : Nat → L2.St → Hp → Prop) (h0 : Pv 0 σ H1)
    (hG : ∀ i σ H, i ≤ n → Pv i σ H → G H) (hs : ∀ i x σ H H', i < n → Pv i σ H → Y i H x H' → g x σ H' fun σ2 H2 => tb { D with nx := Pv (i + 1), ct := Pv (i + 1), bk := D.nx } σ2 H2) (hd : ∀ σ H, Pv n σ H → D.nx σ H) : tFor wi g tb D σ H :=
  hwi _ (for_it wk Pv h0 hG hs hd)
theorem tLc_of {J : It} {n : Nat} {G : Hp → Prop} {Y : Nat → Hp → V → Hp → Prop} {wi : TI} {g : TG} {tt : TT} {te : TE} {vs : List Nat} {σ : L2.St} {H H1 : Hp} {Q : VK} (wk : Walk J n G Y) (hwi : ∀ R : It → Hp → Prop, R J H1 → wi σ H R) (Pv : Addr → Nat → Hp → Prop)
    (h0 : ∀ D, H1 D = none → Pv D 0 (upd H1 D (.lst []))) (hG : ∀ D i H, i ≤ n → Pv D i H → G H)
    (hs : ∀ D i x H H', i < n → Pv D i H → Y i H x H' → g x (wipe σ vs) H' fun σ2 H2 => wipe σ2 vs = wipe σ vs ∧ tt σ2 H2 fun b H3 =>
      if b = true then te σ2 H3 fun y H4 => ∃ acc, H4 D = some (.lst acc) ∧ acc.length < sizeLine ∧ Pv D (i + 1) (upd H4 D (.lst (acc ++ [y]))) else Pv D (i + 1) H3) (hd : ∀ D H, Pv D n H → Q (.ref D) H) : tLc wi g tt te vs σ H Q :=
  hwi _ fun D hD => lc_it wk (Pv D) (h0 D hD) (hG D) (hs D) (hd D)
theorem cut_tl (z : Str) (lo hi : Option Int) : (cutS z lo hi).cps.toList = (z.cps.toList.drop (HT.sIx z.length 0 lo)).take (HT.sIx z.length z.length hi - HT.sIx z.length 0 lo) := rfl
theorem cut_to (z : Str) (n : Nat) : (cutS z none (some (n : Int))) = S (z.cps.toList.take n) := by
  apply str_ext
  rw [cut_tl, HT.sIx_none, HT.sIx_nat, List.drop_zero, Nat.sub_zero, tl_S]
  have e : z.length = z.cps.toList.length := rfl
  rw [e, List.take_eq_take_iff]
  omega
theorem cut_from (z : Str) (n : Nat) : (cutS z (some (n : Int)) none) = S (z.cps.toList.drop n) := by
  apply str_ext
  rw [cut_tl, HT.sIx_none, HT.sIx_nat, tl_S]
  have e : z.length = z.cps.toList.length := rfl
  rw [e]
  by_cases h : n ≤ z.cps.toList.length
  · rw [Nat.min_eq_left h]
    exact List.take_of_length_le (by rw [List.length_drop]; exact Nat.le_refl _)
  · rw [Nat.min_eq_right (by omega), List.drop_of_length_le (Nat.le_refl _), List.drop_of_length_le (by omega)]
    simp
theorem cut_mid (z : Str) (m n : Nat) (hm : m ≤ n) (hn : n ≤ z.length) : (cutS z (some (m : Int)) (some (n : Int))) = S ((z.cps.toList.drop m).take (n - m)) := by
  apply str_ext
  rw [cut_tl, HT.sIx_nat, HT.sIx_nat, tl_S, Nat.min_eq_left hn, Nat.min_eq_left (Nat.le_trans hm hn)]
end WW

set_option maxHeartbeats 4000000
namespace WW
open PySem PySem.Spec PyProof.Rows L2
section
variable {X : Cx}
def rEqW (K : PySem.W.Frag) : R2 := fun x y H Q => ∃ d e, Dp K H x d ∧ Dp K H y e ∧ d.canLay0 = true ∧ e.canLay0 = true ∧ min d.depth e.depth ≤ 64 ∧ Q (.bl (PyData.eqv d e)) H
def rNeW (K : PySem.W.Frag) : R2 := fun x y H Q => ∃ d e, Dp K H x d ∧ Dp K H y e ∧ d.canLay0 = true ∧ e.canLay0 = true ∧ min d.depth e.depth ≤ 64 ∧ Q (.bl (!PyData.eqv d e)) H
theorem op_eqW (hu : X.A.units + 64 < cLine) : OpR X (compareOp .Eq) (rEqW X.K) := by
  intro pins s σ H x y v u Q I rx ry h
  obtain ⟨d, e, hd, he, sd, se, hm, q⟩ := h
  obtain ⟨as, r1⟩ := Dp.reads I d x v hd rx
  obtain ⟨bs, r2⟩ := Dp.reads I e y u he ry
  exact SeqAt.compareEq_reads r1 r2 sd se (by omega) ⟨.bl _, H, I, rfl, q⟩
theorem op_neW (hu : X.A.units + 64 < cLine) : OpR X (compareOp .NotEq) (rNeW X.K) := by
  intro pins s σ H x y v u Q I rx ry h
  obtain ⟨d, e, hd, he, sd, se, hm, q⟩ := h
  obtain ⟨as, r1⟩ := Dp.reads I d x v hd rx
  obtain ⟨bs, r2⟩ := Dp.reads I e y u he ry
  exact SeqAt.compareNe_reads r1 r2 sd se (by omega) ⟨.bl _, H, I, rfl, q⟩
end
theorem tFor_same {J : It} {n : Nat} {G : Hp → Prop} {Y : Nat → Hp → V → Hp → Prop} {wi : TI} {g : TG} {tb : TS} {D : Ends} {σ : L2.St} {H : Hp} (wk : Walk J n G Y) (hwi : ∀ R : It → Hp → Prop, R J H → wi σ H R) (Pv : Nat → L2.St → Hp → Prop) (h0 : Pv 0 σ H)
    (hG : ∀ i σ H, i ≤ n → Pv i σ H → G H) (hs : ∀ i x σ H H', i < n → Pv i σ H → Y i H x H' → g x σ H' fun σ2 H2 => tb { D with nx := Pv (i + 1), ct := Pv (i + 1), bk := D.nx } σ2 H2) (hd : ∀ σ H, Pv n σ H → D.nx σ H) : tFor wi g tb D σ H :=
  hwi _ (for_it wk Pv h0 hG hs hd)
theorem seq_of {t u : TS} {D : Ends} {σ : L2.St} {H : Hp} (h : t { D with nx := u D } σ H) : tSeq t u D σ H := h
theorem asg_call {sp : Sp} {W : WX} {ta : TA} {j : Nat} {D : Ends} {σ : L2.St} {H : Hp} {vs : List V} (hv : ∀ R : List V → Hp → Prop, R vs H → ta σ H R) (h : sp vs H (fun x H1 => D.nx (σ.set j (some x)) H1) (WE W σ)) : tAsg (tCallS sp (WE W) ta) (gName j) D σ H := hv _ h
theorem cut_of {t u : TS} {D : Ends} {σ : L2.St} {H : Hp} (Mid : L2.St → Hp → Prop) (h1 : t { D with nx := Mid } σ H) (h2 : ∀ σ' H', Mid σ' H' → u D σ' H') : Evl.tCut t u D σ H := ⟨Mid, h1, h2⟩
theorem tyLst {K : PySem.W.Frag} {H : Hp} {p : Addr} {xs : List V} (h : H p = some (.lst xs)) : tyV K "list" (.ref p) H := .inl ⟨rfl, _, SqL.of h⟩
theorem drop_at {α : Type} {l : List α} {i : Nat} {c : α} (e : l[i]? = some c) : l.drop i = c :: l.drop (i + 1) := by
  obtain ⟨h, e⟩ := List.getElem?_eq_some_iff.mp e
  rw [List.drop_eq_getElem_cons h, e]
/-- the instance is none of the lists -/
theorem ne_ins {H : Hp} {a b C dx : Addr} {fs : List (Str × V)} {xs : List V} (h : H a = some (.ins C dx fs)) (g : H b = some (.lst xs)) : a ≠ b := by
  rintro rfl
  rw [h] at g
  cases g
theorem noTup_l {xs : List V} : noTup (.lst xs) := trivial
theorem noTup_i {C dx : Addr} {fs : List (Str × V)} : noTup (.ins C dx fs) := trivial
theorem len_putF {f : Str} {v : V} : ∀ fs : List (Str × V), (fs.lookup f).isSome = true → (putF f v fs).length = fs.length
  | [], h => by cases h
  | (g, x) :: r, h => by
    unfold putF
    by_cases e : g = f
    · rw [if_pos e]; rfl
    · rw [if_neg e, List.length_cons, List.length_cons]
      have e2 : (f == g) = false := by
        cases q : f == g with
        | false => rfl
        | true => exact absurd (eq_of_beq q).symm e
      rw [List.lookup_cons, e2] at h
      rw [len_putF r h]
end WW

set_option maxHeartbeats 4000000
namespace WW
open PySem PySem.Spec PyProof.Rows L2
local macro_rules | `(tactic| walk_at "x") => `(tactic| simp only [tSeq, tNext, tAsg, gName, tRet, tRetN, tIfS, tOp, tUn, rI, rI0, rU, tTest, tB, tAnd, tOr, tNot, tAndV, tOrV, tNotV, tIf, tCons, tNil, tTup, tLst, tCall, tCallS, tMeth, tMake, tFld, sFld, tBM, tBM0, tCB, tSl, tPart, tNoPart, tDrop, tPar, tPar3, tAug, ipI, gTup, gCons, gNil, gSub, rSetL, rAppend, rPop, rIxL, rIxS, rIxT, rEq, rNe, tChain, tNever, tThen, tVar, tC, L2.start, List.map_cons, List.map_nil, List.length_cons, List.length_nil, List.replicate_succ, List.replicate_zero, List.append_nil, List.nil_append, List.cons_append, Nat.reduceAdd, Nat.reduceSub, Nat.add_zero, Nat.zero_add, Nat.sub_zero, Nat.sub_self,
  List.getElem?_cons_zero, List.getElem?_cons_succ, Option.some.injEq, exists_eq_left', exists_eq_left, exists_eq', exists_eq, exists_and_left, List.set_cons_zero, List.set_cons_succ, V.int.injEq, V.bl.injEq, V.str.injEq, V.ref.injEq, V.ty.injEq, List.cons.injEq, and_true, true_and, and_assoc, if_true, if_false, Bool.false_eq_true, reduceCtorEq, false_and, and_false, exists_false, false_or, or_false, Bool.not_true, Bool.not_false, decide_eq_true_eq, ite_true, ite_false, WE, cxOf_K, cxOf_mg, rSlS, scal, wipe, mem_low, mem_dig, mem_brk, mem_brk4, sgn_inj, Bool.decide_eq_true])

def spIsWhole (K : PySem.W.Frag) : Sp := fun vs H Q _ => ∃ x d, vs = [x] ∧ Dp K H x d ∧ Q (.bl (isa d "int" && !isa d "bool")) H
def wordB (z : Str) : Bool := words24.any fun w => decide (w = z)
def nameL (z : Str) : Bool := wordL z.cps.toList && !wordB z
def nameD : PyData → Bool
  | .str z => nameL z
  | _ => false
def shortS : PyData → Bool
  | .str z => decide (z.length ≤ 1000000)
  | _ => true
def spName (K : PySem.W.Frag) : Sp := fun vs H Q _ => ∃ x d, vs = [x] ∧ Dp K H x d ∧ shortS d = true ∧ ∀ H', Same H H' → Q (.bl (nameD d)) H'
def natD (m : Int) : PyData → Bool
  | .int i => decide (0 ≤ i) && decide (i ≤ m)
  | _ => false
/-- an atom: word, the parts behind -/
def atomD (w : Str) (ds : List PyData) : Bool :=
  if w = "name" ∨ w = "fresh" then (match ds with | [a] => nameD a | _ => false)
  else if w = "own" then (match ds with | [a] => natD 99 a | _ => false)
  else if w = "var" ∧ ds.length = 1 then (match ds with | [a] => nameD a | _ => false)
  else if w = "var" ∨ w = "new" then (match ds with | [a, b] => nameD a && natD 3 b | _ => false) else false
def spAtom (K : PySem.W.Frag) : Sp := fun vs H Q _ => ∃ x w a ds, vs = [x] ∧ Dp K H x (.tuple (.str w :: a :: ds)) ∧ w.length ≤ 1000000 ∧ shortS a = true ∧ ds.length ≤ 1000000 ∧ ∀ H', Same H H' → Q (.bl (atomD w (a :: ds))) H'
theorem ite2 {a b : Prop} [Decidable a] [Decidable b] {A G : Prop} (h : ¬ (a ∧ b)) (g : G) : if a then (if b then A else G) else G := by
  by_cases ha : a
  · rw [if_pos ha, if_neg (fun hb => h ⟨ha, hb⟩)]; exact g
  · rw [if_neg ha]; exact g
theorem inS (u : Str) (l : List Str) : inV (.str u) (l.map V.str) = l.any fun w => decide (w = u) := by
  unfold inV
  rw [List.any_map]
  congr 1
theorem flatS (l : List Str) : (l.map V.str).all flatV = true := by
  rw [List.all_map, List.all_eq_true]
  intro _ _
  rfl
theorem Wd.words {K : PySem.W.Frag} {mg : Str → Option Value} (W : Wd fa fn K mg) (H : Hp) : SqT K H (He.ga K "WORDS") (words24.map V.str) := by
  have h := W.ex
  unfold exB at h
  simp only [Bool.and_eq_true] at h
  have := He.tupB_ok h.1.1.1 H
  rwa [List.map_map] at this
theorem Wd.two {K : PySem.W.Frag} {mg : Str → Option Value} (W : Wd fa fn K mg) (H : Hp) : SqT K H (He.ga K "TWO_PARTS") (["pair", "lock", "shut", "seal"].map fun x => V.str (PySem.Str.ofString x)) := by
  have h := W.ex
  unfold exB at h
  simp only [Bool.and_eq_true] at h
  have := He.tupB_ok h.1.1.2 H
  rwa [List.map_map] at this
theorem Wd.onep {K : PySem.W.Frag} {mg : Str → Option Value} (W : Wd fa fn K mg) (H : Hp) : SqT K H (He.ga K "ONE_PART") (["print", "pub"].map fun x => V.str (PySem.Str.ofString x)) := by
  have h := W.ex
  unfold exB at h
  simp only [Bool.and_eq_true] at h
  have := He.tupB_ok h.1.2 H
  rwa [List.map_map] at this
theorem Wd.made {K : PySem.W.Frag} {mg : Str → Option Value} (W : Wd fa fn K mg) (H : Hp) : SqT K H (He.ga K "MADE") (["pair", "lock", "shut", "seal", "print", "pub"].map fun x => V.str (PySem.Str.ofString x)) := by
  have h := W.ex
  unfold exB at h
  simp only [Bool.and_eq_true] at h
  have := He.tupB_ok h.2 H
  rwa [List.map_map] at this
section
variable {P : Program} {w : World} {K : PySem.W.Frag} {mg : Str → Option Value} {base : Heap}
theorem o_is_whole (W : Wd fa fn K mg) : OkF P w K mg base d_is_whole 1 ["value"] (spIsWhole K) := by
  refine okf W (d := d_is_whole) 0 sc_is_whole rfl rfl (fun _ _ _ _ _ _ us hl => match us, hl with | [_], _ => rfl) ?len (fun cdv A outer s H vs Q E hr nd hu tk po h => ?body)
  case len =>
    rintro vs H Q E ⟨x, d, rfl, _⟩
    rfl
  case body =>
    refine ⟨_, (pss_one (ps_ret (pe_and (pe_callB call_isiV (by rfl) (W.free 0) (by decide +kernel) (pa_cons (pv 0) (pa_cons (pe_bltn (v := .ty "int") (u := .type "int") rfl (W.free 2) (by decide +kernel) rfl) pa_nil))) (pe_one (pe_not (pe_callB call_isiV (by rfl) (W.free 0) (by decide +kernel) (pa_cons (pv 0) (pa_cons (pe_bltn (v := .ty "bool") (u := .type "bool") rfl (W.free 1) (by decide +kernel) rfl) pa_nil)))))))), ?_⟩
    obtain ⟨x, d, rfl, hd, hq⟩ := h
    walk_at "x"
    simp only [rIsaV]
    walk_at "x"
    refine ⟨by decide, _, IsaV.of hd, ?_⟩
    cases h1 : isa d "int" with
    | false => rw [h1] at hq; exact iteF hq
    | true => rw [h1] at hq; exact iteT ⟨by decide, _, IsaV.of hd, hq⟩
theorem o_is_name (W : Wd fa fn K mg) : OkF P w K mg base d_is_name 1 ["value"] (spName K) := by
  refine okf W (d := d_is_name) 1 sc_is_name rfl rfl (fun _ _ _ _ _ _ us hl => match us, hl with | [_], _ => rfl) ?len (fun cdv A outer s H vs Q E hr nd hu tk po h => ?body)
  case len =>
    rintro vs H Q E ⟨x, d, rfl, _⟩
    rfl
  case body =>
    refine ⟨_, (pss_cons (ps_if (PW.pt (pw_or (pt_not (pt_val (pe_callB call_isiV (by rfl) (W.free 0) (by decide +kernel) (pa_cons (pv 0) (pa_cons (pe_bltn (v := .ty "str") (u := .type "str") rfl (W.free 9) (by decide +kernel) rfl) pa_nil))))) (pw_or (pt_not (pt_chain op_le op_le pe_int (pe_callB call_len (by rfl) (W.free 7) (by decide +kernel) (pa_cons (pv 0) pa_nil)) (C8.pe_gc rfl (W.intV 8)))) (pw_or1 (pt_cmpR op_in_seq (pv 0) (C8.pe_gc rfl (W.refV 6)) (by rfl)))))) (pss_one (ps_ret pe_bl)) pss_nil)
    (pss_one (ps_ret (pe_and (pe_cmpR op_in_sign (pe_ix ix_str (pv 0) pe_int (fun _ _ => rfl)) (C8.pe_gc rfl (W.strV 5)) (by rfl)) (pe_one (pe_callB (cr_all rfl) (by rfl) (W.free 3) (by decide +kernel) (pa_cons (pe_lc (own := [("sign", 1)]) (g := (gName 1)) (tt := tYes) rfl nd (pi_str (pv 0)) (blkOk_by (own := [("sign", 1)]) (N := ["value", "sign"]) (sc := defScope s_is_name) (by decide +kernel)) (fun _ _ _ _ _ => (pg_name (i := 1) nd rfl (by first | exact Or.inl rfl | exact Or.inr rfl))) (fun _ _ _ _ _ => pts_nil) (fun _ _ _ _ _ => (pe_or (pe_cmpR op_in_sign (pv 1) (C8.pe_gc rfl (W.strV 5)) (by rfl)) (pe_one (pe_cmpR op_in_sign (pv 1) (C8.pe_gc rfl (W.strV 4)) (by rfl)))))) pa_nil))))))), ?_⟩
    obtain ⟨x, d, rfl, hd, hz, hq⟩ := h
    clear tk po
    walk_at "x"
    simp only [rIsaV]
    walk_at "x"
    refine ⟨by decide, _, IsaV.of hd, ?_⟩
    cases hd with
    | str z =>
      have hz : z.length ≤ 1000000 := by simpa [shortS] using hz
      have e1 : isa (.str z) "str" = true := rfl
      rw [e1]
      have szl := sizeLine_eq
      refine iteF ⟨z.length, ⟨by omega, rfl⟩, ?_⟩
      have el : z.length = z.cps.toList.length := rfl
      have hno : wordL z.cps.toList = false → ∀ H', Same H H' → Q (.bl false) H' := fun h H' s => by
        have := hq H' s
        simpa [nameD, nameL, h] using this
      by_cases h1 : 1 ≤ z.length
      · rw [if_pos (by omega)]
        by_cases h12 : z.length ≤ 12
        · rw [decide_eq_true (show (z.length : Int) ≤ 12 by omega)]
          refine iteF ⟨_, _, rfl, .inr (W.words H), rfl, flatS _, _, rfl, ?_⟩
          rw [inS]
          cases hwb : words24.any fun w => decide (w = z) with
          | true =>
            have := hq H (Same.refl H)
            have e : wordB z = true := hwb
            simp only [nameD, nameL, e, Bool.not_true, Bool.and_false] at this
            exact iteT this
          | false =>
            have e : wordB z = false := hwb
            have hq' : ∀ H', Same H H' → Q (.bl (wordL z.cps.toList)) H' := fun H' s => by
              have := hq H' s
              simpa [nameD, nameL, e] using this
            refine iteF ⟨z, rfl, by omega, ?_⟩
            cases hl : z.cps.toList with
            | nil => rw [hl] at el; simp at el; omega
            | cons c0 r =>
              refine ⟨c0, atI_nat (j := 0) rfl, ?_⟩
              rw [hl] at hq' hno
              by_cases h0 : isLow c0 = true
              · rw [if_pos h0]
                refine tLc_str (f := fun c => .bl (isLow c || isDig c)) hz (fun R h => ⟨_, rfl, h⟩) (fun x => rfl) ?_ ?_
                · intro c H2 R hR
                  walk_at "x"
                  cases h1 : isLow c with
                  | true => simpa [h1] using hR
                  | false => refine iteF ?_; simpa [h1] using hR
                · intro D hD
                  refine ⟨D, z.cps.toList.map fun c => isLow c || isDig c, rfl, SqL.of (by rw [upd_same, List.map_map]; rfl), ?_⟩
                  have := hq' _ (Same.new (o := .lst (z.cps.toList.map fun c => .bl (isLow c || isDig c))) hD)
                  have e3 : wordL (c0 :: r) = ((z.cps.toList.map fun c => isLow c || isDig c).all id) := by
                    rw [hl]
                    simp only [wordL, h0, List.length_cons, List.all_map]
                    rw [hl, List.length_cons] at el
                    have a1 : decide (1 ≤ r.length + 1) = true := decide_eq_true (by omega)
                    have a2 : decide (r.length + 1 ≤ 12) = true := decide_eq_true (by omega)
                    rw [a1, a2]
                    rfl
                  rw [e3] at this
                  exact this
              · rw [if_neg h0]
                exact hno (by simp [wordL, h0]) H (Same.refl H)
        · rw [decide_eq_false (show ¬ (z.length : Int) ≤ 12 by omega)]
          refine iteT (hno ?_ H (Same.refl H))
          have : decide (z.cps.toList.length ≤ 12) = false := decide_eq_false (by omega)
          simp only [wordL, this, Bool.and_false, Bool.false_and]
      · rw [if_neg (by omega)]
        refine hno ?_ H (Same.refl H)
        have : decide (1 ≤ z.cps.toList.length) = false := decide_eq_false (by omega)
        simp only [wordL, this, Bool.false_and]
    | _ => exact iteT (hq _ (Same.refl _))
theorem o_is_atom (W : Wd fa fn K mg) : OkF P w K mg base d_is_atom 2 ["value"] (spAtom K) := by
  have o_is_whole := o_is_whole (P := P) (w := w) (base := base) W
  have o_is_name := o_is_name (P := P) (w := w) (base := base) W
  obtain ⟨fd_is_name, F_is_name, b_is_name, k_is_name⟩ := o_is_name.ex; obtain ⟨fd_is_whole, F_is_whole, b_is_whole, k_is_whole⟩ := o_is_whole.ex
  refine okf W (d := d_is_atom) 2 sc_is_atom rfl rfl (fun _ _ _ _ _ _ us hl => match us, hl with | [_], _ => rfl) ?len (fun cdv A outer s H vs Q E hr nd hu tk po h => ?body)
  case len =>
    rintro vs H Q E ⟨x, _, _, _, rfl, _⟩
    rfl
  case body =>
    refine ⟨_, (pss_cons (ps_par (i := 1) (j := 2) (by rfl) nd rfl rfl (by decide) rfl rfl (pa_cons (pe_ix ix_tup (pv 0) pe_int (fun _ _ => rfl)) (pa_cons (pe_callB call_len (by rfl) (W.free 7) (by decide +kernel) (pa_cons (pv 0) pa_nil)) pa_nil)) (by rfl))
    (pss_cons (ps_if (pt_cmpR op_in_seq (pv 1) (pe_tup (pa_cons pe_str (pa_cons pe_str pa_nil))) (by rfl)) (pss_one (ps_ret (pe_and (pe_cmpR op_eq (pv 2) pe_int (nomark _)) (pe_one (by exact (pe_callS F_is_name (hr.mono (by first | decide | omega)) rfl (W.glo 12) k_is_name b_is_name (fun σ => passAt tk σ) (by exact (pa_cons (pe_ix ix_tup (pv 0) pe_int (fun _ _ => rfl)) pa_nil)))))))) pss_nil)
    (pss_cons (ps_if (pt_cmpR op_eq (pv 1) pe_str (nomark _)) (pss_one (ps_ret (pe_and (pe_cmpR op_eq (pv 2) pe_int (nomark _)) (pe_and (by exact (pe_callS F_is_whole (hr.mono (by first | decide | omega)) rfl (W.glo 11) k_is_whole b_is_whole (fun σ => passAt tk σ) (by exact (pa_cons (pe_ix ix_tup (pv 0) pe_int (fun _ _ => rfl)) pa_nil)))) (pe_one (pe_chain op_le op_le pe_int (pe_ix ix_tup (pv 0) pe_int (fun _ _ => rfl)) (C8.pe_gc rfl (W.intV 13)))))))) pss_nil)
    (pss_cons (ps_if (PW.pt (pw_and (pt_cmpR op_eq (pv 1) pe_str (nomark _)) (pw_and1 (pt_cmpR op_eq (pv 2) pe_int (nomark _))))) (pss_one (ps_ret (by exact (pe_callS F_is_name (hr.mono (by first | decide | omega)) rfl (W.glo 12) k_is_name b_is_name (fun σ => passAt tk σ) (by exact (pa_cons (pe_ix ix_tup (pv 0) pe_int (fun _ _ => rfl)) pa_nil)))))) pss_nil)
    (pss_cons (ps_if (PW.pt (pw_or (pt_cmpR op_notIn_seq (pv 1) (pe_tup (pa_cons pe_str (pa_cons pe_str pa_nil))) (by rfl)) (pw_or1 (pt_cmpR op_ne (pv 2) pe_int (nomark _))))) (pss_one (ps_ret pe_bl)) pss_nil)
    (pss_one (ps_ret (pe_and (by exact (pe_callS F_is_name (hr.mono (by first | decide | omega)) rfl (W.glo 12) k_is_name b_is_name (fun σ => passAt tk σ) (by exact (pa_cons (pe_ix ix_tup (pv 0) pe_int (fun _ _ => rfl)) pa_nil)))) (pe_and (by exact (pe_callS F_is_whole (hr.mono (by first | decide | omega)) rfl (W.glo 11) k_is_whole b_is_whole (fun σ => passAt tk σ) (by exact (pa_cons (pe_ix ix_tup (pv 0) pe_int (fun _ _ => rfl)) pa_nil)))) (pe_one (pe_chain op_le op_lt pe_int (pe_ix ix_tup (pv 0) pe_int (fun _ _ => rfl)) (C8.pe_gc rfl (W.intV 10))))))))))))), ?_⟩
    obtain ⟨x, u, a, ds, rfl, hd, hw, ha, hl, hq⟩ := h
    clear tk po
    cases hd with
    | @tup p vs0 ds0 h1 h2 =>
      cases h2 with
      | @cons v0 vs1 d0 ds1 k0 k1 =>
        cases k0
        cases k1 with
        | @cons va vs d1 ds2 ka kv =>
          have hvl := DpAll.length kv
          have szl := sizeLine_eq
          have lenV : LenV K (V.ref p) H (ds.length + 2) := .inr ⟨_, h1, by simp [hvl]⟩
          have flat2 : ∀ a b : Str, ([V.str a, V.str b]).all flatV = true := fun _ _ => rfl
          have in2 : ∀ a b : Str, inV (.str u) [.str a, .str b] = (decide (a = u) || decide (b = u)) := fun a b => by
            have := inS u [a, b]
            simpa using this
          have sq : ∀ {H'}, Same H H' → SqT K H' p (.str u :: va :: vs) := fun s => (Tx.of s).sqt h1
          walk_at "x"
          have i0 : atI (V.str u :: va :: vs) 0 = some (.str u) := atI_nat (j := 0) rfl
          have i1 : atI (V.str u :: va :: vs) 1 = some va := atI_nat (j := 1) rfl
          refine ⟨_, h1, _, i0, _, lenV, by decide, fun p1 hp1 => ?_⟩
          have s1 := Same.new (o := HO.tup [V.str (Str.ofString "name"), V.str (Str.ofString "fresh")]) hp1
          refine ⟨p1, _, rfl, .inr (SqT.of upd_same), rfl, flat2 _ _, _, rfl, ?_⟩
          rw [in2]
          have two : ∀ (H' : Hp) (R : Prop → Prop), True := fun _ _ => trivial
          have nameOf : ∀ (H' : Hp) (R : Bool) (E' : XK), Same H H' → ds = [] → (R = nameD a) → atomD u [a] = R → spName K [va] H' Q E' := fun H' R E' s e hR hA => ⟨va, a, rfl, Dp.sm s a va ka, ha, fun H2 s2 => by
            have := hq H2 (Same.trans s s2)
            rw [e, hA, hR] at this
            exact this⟩
          have no : ∀ H', Same H H' → atomD u (a :: ds) = false → Q (.bl false) H' := fun H' s e => by have := hq H' s; rwa [e] at this
          have l2 : ((ds.length + 2 : Nat) : Int) = 2 ↔ ds = [] := ⟨fun h => List.length_eq_zero_iff.mp (by omega), fun h => by rw [h]; rfl⟩
          by_cases c1 : u = Str.ofString "name" ∨ u = Str.ofString "fresh"
          · have c1b : (decide (Str.ofString "name" = u) || decide (Str.ofString "fresh" = u)) = true := by
              rcases c1 with h | h <;> simp [h]
            rw [c1b]
            refine iteT ?_
            by_cases hds : ds = []
            · rw [if_pos (l2.mpr hds)]
              refine ⟨_, sq s1, _, i1, nameOf _ (nameD a) _ s1 hds rfl ?_⟩
              unfold atomD
              rw [if_pos c1]
            · rw [if_neg (fun h => hds (l2.mp h))]
              refine no _ s1 ?_
              unfold atomD
              rw [if_pos c1]
              cases ds with
              | nil => exact absurd rfl hds
              | cons _ _ => rfl
          · have c1b : (decide (Str.ofString "name" = u) || decide (Str.ofString "fresh" = u)) = false := by
              rw [not_or] at c1
              simp [Ne.symm c1.1, Ne.symm c1.2]
            rw [c1b]
            refine iteF ⟨rfl, ?_⟩
            by_cases c2 : u = Str.ofString "own"
            · rw [if_pos (by rw [c2])]
              by_cases hds : ds = []
              · rw [if_pos (l2.mpr hds)]
                have eA : atomD u (a :: ds) = natD 99 a := by
                  unfold atomD
                  rw [if_neg c1, if_pos c2, hds]
                refine ⟨_, sq s1, _, i1, va, a, rfl, Dp.sm s1 a va ka, _, rfl, ?_⟩
                have fin := hq _ s1
                rw [eA] at fin
                cases ka with
                | int j =>
                  refine iteT ⟨_, sq s1, _, i1, j, rfl, ?_⟩
                  simp only [natD] at fin
                  by_cases h0 : 0 ≤ j
                  · rw [if_pos h0]
                    rw [decide_eq_true h0, Bool.true_and] at fin
                    exact ⟨j, rfl, fin⟩
                  · rw [if_neg h0]
                    rw [decide_eq_false h0, Bool.false_and] at fin
                    exact fin
                | _ => exact iteF fin
              · rw [if_neg (fun h => hds (l2.mp h))]
                refine no _ s1 ?_
                unfold atomD
                rw [if_neg c1, if_pos c2]
                cases ds with
                | nil => exact absurd rfl hds
                | cons _ _ => rfl
            · rw [if_neg (fun h => c2 (by injection h))]
              refine ⟨rfl, ?_⟩
              by_cases c3 : u = Str.ofString "var" ∧ ds = []
              · rw [if_pos (by rw [c3.1]), if_pos (l2.mpr c3.2)]
                refine ⟨_, sq s1, _, i1, nameOf _ (nameD a) _ s1 c3.2 rfl ?_⟩
                unfold atomD
                rw [if_neg c1, if_neg c2, if_pos ⟨c3.1, rfl⟩]
              · refine ite2 (fun h => c3 ⟨by injection h.1, l2.mp h.2⟩) ⟨by decide, fun p2 hp2 => ?_⟩
                have s2 := Same.trans s1 (Same.new (o := HO.tup [V.str (Str.ofString "var"), V.str (Str.ofString "new")]) hp2)
                refine ⟨p2, _, rfl, .inr (SqT.of upd_same), rfl, flat2 _ _, _, rfl, ?_⟩
                simp only [if_true]
                rw [in2]
                have c3' : ¬ (u = Str.ofString "var" ∧ (a :: ds).length = 1) := fun h => c3 ⟨h.1, by simpa using h.2⟩
                by_cases c4 : u = Str.ofString "var" ∨ u = Str.ofString "new"
                · have c4b : (decide (Str.ofString "var" = u) || decide (Str.ofString "new" = u)) = true := by
                    rcases c4 with h | h <;> simp [h]
                  rw [c4b]
                  refine iteF ?_
                  have eA : atomD u (a :: ds) = (match a :: ds with | [a, b] => nameD a && natD 3 b | _ => false) := by
                    unfold atomD
                    rw [if_neg c1, if_neg c2, if_neg c3', if_pos c4]
                  match ds, vs, kv, hvl, eA, hq, h1 with
                  | [], [], _, _, eA, hq, _ => exact iteT (by have := hq _ s2; rw [eA] at this; exact this)
                  | _ :: _ :: _, _ :: _ :: _, _, _, eA, hq, _ =>
                    refine iteT ?_
                    have := hq _ s2
                    rw [eA] at this
                    exact this
                  | [b], [vb], .cons kb _, _, eA, hq, h1 =>
                    have sq : ∀ {H'}, Same H H' → SqT K H' p [.str u, va, vb] := fun s => (Tx.of s).sqt h1
                    refine iteF ⟨_, sq s2, _, rfl, va, a, rfl, Dp.sm s2 a va ka, ha, fun H2 s3 => ⟨_, rfl, ?_⟩⟩
                    have s4 := Same.trans s2 s3
                    have fin := hq _ s4
                    rw [eA] at fin
                    simp only at fin
                    by_cases hn : nameD a = true
                    · rw [if_pos hn]
                      rw [hn, Bool.true_and] at fin
                      refine ⟨_, sq s4, _, rfl, vb, b, rfl, Dp.sm s4 b vb kb, _, rfl, ?_⟩
                      cases kb with
                      | int j =>
                        refine iteT ⟨_, sq s4, _, rfl, j, rfl, ?_⟩
                        simp only [natD] at fin
                        by_cases h0 : 0 ≤ j
                        · rw [if_pos h0]
                          rw [decide_eq_true h0, Bool.true_and] at fin
                          refine ⟨j, rfl, ?_⟩
                          have e4 : decide (j < 4) = decide (j ≤ 3) := by
                            by_cases h : j < 4
                            · rw [decide_eq_true h, decide_eq_true (by omega)]
                            · rw [decide_eq_false h, decide_eq_false (by omega)]
                          rw [e4]
                          exact fin
                        · rw [if_neg h0]
                          rw [decide_eq_false h0, Bool.false_and] at fin
                          exact fin
                      | _ => exact iteF fin
                    · rw [if_neg hn]
                      have : nameD a = false := by simpa using hn
                      rw [this, Bool.false_and] at fin
                      exact fin
                · have c4b : (decide (Str.ofString "var" = u) || decide (Str.ofString "new" = u)) = false := by
                    rw [not_or] at c4
                    simp [Ne.symm c4.1, Ne.symm c4.2]
                  rw [c4b]
                  refine iteT (no _ s2 ?_)
                  unfold atomD
                  rw [if_neg c1, if_neg c2, if_neg c3', if_neg c4]
end
end WW

set_option maxHeartbeats 4000000
namespace WW
open PySem PySem.Spec PyProof.Rows L2
local macro_rules | `(tactic| walk_at "x") => `(tactic| simp only [tSeq, tNext, tAsg, gName, tRet, tRetN, tIfS, tOp, tUn, rI, rI0, rU, tTest, tB, tAnd, tOr, tNot, tAndV, tOrV, tNotV, tIf, tCons, tNil, tTup, tLst, tCall, tCallS, tMeth, tMake, tFld, sFld, tBM, tBM0, tCB, tSl, tPart, tNoPart, tDrop, tPar, tPar3, tAug, ipI, gTup, gCons, gNil, gSub, rSetL, rAppend, rPop, rIxL, rIxS, rIxT, rEq, rNe, tChain, tNever, tThen, tVar, tC, L2.start, List.map_cons, List.map_nil, List.length_cons, List.length_nil, List.replicate_succ, List.replicate_zero, List.append_nil, List.nil_append, List.cons_append, Nat.reduceAdd, Nat.reduceSub, Nat.add_zero, Nat.zero_add, Nat.sub_zero, Nat.sub_self,
  List.getElem?_cons_zero, List.getElem?_cons_succ, Option.some.injEq, exists_eq_left', exists_eq_left, exists_eq', exists_eq, exists_and_left, List.set_cons_zero, List.set_cons_succ, V.int.injEq, V.bl.injEq, V.str.injEq, V.ref.injEq, V.ty.injEq, List.cons.injEq, and_true, true_and, and_assoc, if_true, if_false, Bool.false_eq_true, reduceCtorEq, false_and, and_false, exists_false, false_or, or_false, Bool.not_true, Bool.not_false, decide_eq_true_eq, ite_true, ite_false, WE, cxOf_K, cxOf_mg, rSlS, scal, wipe, mem_low, mem_dig, mem_brk, mem_brk4, sgn_inj, Bool.decide_eq_true])

/-- all texts within are short -/
def okS : PyData → Bool
  | .str z => decide (z.length ≤ 1000000)
  | .tuple ds => decide (ds.length ≤ 1000000) && okSs ds
  | _ => true
where okSs : List PyData → Bool
  | [] => true
  | d :: ds => okS d && okSs ds
def onePart : List Str := ["print", "pub"]
def twoParts : List Str := ["pair", "lock", "shut", "seal"]
def shutOk : PyData → Bool
  | .tuple [.str p, _] => decide (p = "pub")
  | _ => false
/-- parts_of -/
def partsD : PyData → Option (List PyData)
  | .tuple (.str w :: a :: ds) =>
    if onePart.any (fun u => decide (u = w)) then (if ds.length = 0 then some [a] else none)
    else if twoParts.any (fun u => decide (u = w)) then (match ds with
      | [b] => if decide (w = "shut") && !shutOk b then none else some [a, b]
      | _ => none)
    else if atomD w (a :: ds) then some [] else none
  | _ => none
def spParts (K : PySem.W.Frag) : Sp := fun vs H Q _ => ∃ x d, vs = [x] ∧ Dp K H x d ∧ okS d = true ∧ d.canLay0 = true ∧ (match partsD d with
  | some ps => ∀ D xs H', Same H H' → H D = none → H' D = some (.lst xs) → DpAll K H' xs ps → Q (.ref D) H'
  | none => ∀ H', Same H H' → Q .non H')
theorem okSs_get {ds : List PyData} (h : okS.okSs ds = true) {i : Nat} {d : PyData} (e : ds[i]? = some d) : okS d = true := by
  induction ds generalizing i with
  | nil => simp at e
  | cons c ds ih =>
    simp only [okS.okSs, Bool.and_eq_true] at h
    cases i with
    | zero => simp at e; exact e ▸ h.1
    | succ i => exact ih h.2 (by simpa using e)
theorem okS_short {d : PyData} (h : okS d = true) : shortS d = true := by
  cases d with
  | str z => simpa [okS, shortS] using h
  | _ => rfl
theorem eqv_ns {d : PyData} {z : Str} (h : ∀ y, d ≠ .str y) : PyData.eqv d (.str z) = false := by
  cases d with
  | str y => exact absurd rfl (h y)
  | _ => simp [PyData.eqv]
theorem eqv_ss (y z : Str) : PyData.eqv (.str y) (.str z) = decide (y = z) := by
  rw [PyData.eqv]
  rfl
section
variable {P : Program} {w : World} {K : PySem.W.Frag} {mg : Str → Option Value} {base : Heap}
theorem o_parts_of (W : Wd fa fn K mg) : OkF P w K mg base d_parts_of 3 ["value"] (spParts K) := by
  have o_is_atom := o_is_atom (P := P) (w := w) (base := base) W
  obtain ⟨fd_is_atom, F_is_atom, b_is_atom, k_is_atom⟩ := o_is_atom.ex
  refine okf W (d := d_parts_of) 3 sc_parts_of rfl rfl (fun _ _ _ _ _ _ us hl => match us, hl with | [_], _ => rfl) ?len (fun cdv A outer s H vs Q E hr nd hu tk po h => ?body)
  case len =>
    rintro vs H Q E ⟨x, _, rfl, _⟩
    rfl
  case body =>
    refine ⟨_, (pss_cons (ps_if (PW.pt (pw_or (pt_not (pt_val (pe_callB call_isiV (by rfl) (W.free 0) (by decide +kernel) (pa_cons (pv 0) (pa_cons (pe_bltn (v := .ty "tuple") (u := .type "tuple") rfl (W.free 14) (by decide +kernel) rfl) pa_nil))))) (pw_or (pt_cmpR op_lt (pe_callB call_len (by rfl) (W.free 7) (by decide +kernel) (pa_cons (pv 0) pa_nil)) pe_int (nomark _)) (pw_or1 (pt_not (pt_val (pe_callB call_isiV (by rfl) (W.free 0) (by decide +kernel) (pa_cons (pe_ix ix_tup (pv 0) pe_int (fun _ _ => rfl)) (pa_cons (pe_bltn (v := .ty "str") (u := .type "str") rfl (W.free 9) (by decide +kernel) rfl) pa_nil))))))))) (pss_one (ps_ret pe_non)) pss_nil)
    (pss_cons (ps_par (i := 1) (j := 2) (by rfl) nd rfl rfl (by decide) rfl rfl (pa_cons (pe_ix ix_tup (pv 0) pe_int (fun _ _ => rfl)) (pa_cons (pe_callB call_len (by rfl) (W.free 7) (by decide +kernel) (pa_cons (pv 0) pa_nil)) pa_nil)) (by rfl))
    (pss_cons (ps_if (pt_cmpR op_in_seq (pv 1) (C8.pe_gc rfl (W.refV 15)) (by rfl)) (pss_one (ps_ret (pe_ifExp (pt_cmpR op_eq (pv 2) pe_int (nomark _)) (pe_lst (pa_cons (pe_ix ix_tup (pv 0) pe_int (fun _ _ => rfl)) pa_nil)) pe_non))) pss_nil)
    (pss_cons (ps_if (pt_cmpR op_notIn_seq (pv 1) (C8.pe_gc rfl (W.refV 16)) (by rfl)) (pss_one (ps_ret (pe_ifExp (pt_val (by exact (pe_callS F_is_atom (hr.mono (by first | decide | omega)) rfl (W.glo 17) k_is_atom b_is_atom (fun σ => passAt tk σ) (by exact (pa_cons (pv 0) pa_nil))))) (pe_lst pa_nil) pe_non))) pss_nil)
    (pss_cons (ps_if (pt_cmpR op_ne (pv 2) pe_int (nomark _)) (pss_one (ps_ret pe_non)) pss_nil)
    (pss_cons (ps_if (PW.pt (pw_and (pt_cmpR op_eq (pv 1) pe_str (nomark _)) (pw_and1 (PW.pt (pw_or (pt_not (pt_val (pe_callB call_isiV (by rfl) (W.free 0) (by decide +kernel) (pa_cons (pe_ix ix_tup (pv 0) pe_int (fun _ _ => rfl)) (pa_cons (pe_bltn (v := .ty "tuple") (u := .type "tuple") rfl (W.free 14) (by decide +kernel) rfl) pa_nil))))) (pw_or (pt_cmpR op_ne (pe_callB call_len (by rfl) (W.free 7) (by decide +kernel) (pa_cons (pe_ix ix_tup (pv 0) pe_int (fun _ _ => rfl)) pa_nil)) pe_int (nomark _)) (pw_or1 (pt_cmpR (op_neW hr.units) (pe_ix ix_seq (pe_ix ix_tup (pv 0) pe_int (fun _ _ => rfl)) pe_int (fun _ _ => rfl)) pe_str (nomark _))))))))) (pss_one (ps_ret pe_non)) pss_nil)
    (pss_one (ps_ret (pe_lst (pa_cons (pe_ix ix_tup (pv 0) pe_int (fun _ _ => rfl)) (pa_cons (pe_ix ix_tup (pv 0) pe_int (fun _ _ => rfl)) pa_nil))))))))))), ?_⟩
    obtain ⟨x, d, rfl, hd, hs, hlay, hq⟩ := h
    clear tk po
    walk_at "x"
    simp only [rIsaV]
    walk_at "x"
    refine ⟨by decide, _, IsaV.of hd, ?_⟩
    cases hd with
    | @tup p vs0 ds0 h1 h2 =>
      have szl := sizeLine_eq
      have nope : partsD (.tuple ds0) = none → ∀ H', Same H H' → Q .non H' := fun e => by rw [e] at hq; exact hq
      have yes : ∀ ps, partsD (.tuple ds0) = some ps → ∀ D xs H', Same H H' → H D = none → H' D = some (.lst xs) → DpAll K H' xs ps → Q (.ref D) H' := fun ps e => by rw [e] at hq; exact hq
      have hs2 : ds0.length ≤ 1000000 ∧ okS.okSs ds0 = true := by simpa [okS] using hs
      have hvl0 := DpAll.length h2
      refine iteF ⟨vs0.length, .inr ⟨_, h1, rfl⟩, ?_⟩
      cases h2 with
      | nil => exact (if_pos (by decide)).mpr (nope rfl H (Same.refl H))
      | @cons v0 vs1 d0 ds1 k0 k1 =>
        cases k1 with
        | nil => exact (if_pos (show ((([v0] : List V).length : Nat) : Int) < 2 by simp)).mpr (nope (by cases d0 <;> rfl) H (Same.refl H))
        | @cons va vs da ds ka kv =>
          rw [if_neg (by simp only [List.length_cons]; omega)]
          have i0 : atI (v0 :: va :: vs) 0 = some v0 := atI_nat (j := 0) rfl
          have i1 : atI (v0 :: va :: vs) 1 = some va := atI_nat (j := 1) rfl
          have sq : ∀ {H'}, Same H H' → SqT K H' p (v0 :: va :: vs) := fun s => (Tx.of s).sqt h1
          refine ⟨p, rfl, _, h1, _, i0, by decide, _, IsaV.of k0, ?_⟩
          cases k0 with
          | str w0 =>
            have hvl := DpAll.length kv
            have oks := hs2.2
            have lenV : LenV K (V.ref p) H (ds.length + 2) := .inr ⟨_, h1, by simp [hvl]⟩
            have ok0 : okS (.str w0) = true := okSs_get (i := 0) oks rfl
            have oka : okS da = true := okSs_get (i := 1) oks rfl
            have l2 : ((ds.length + 2 : Nat) : Int) = 2 ↔ ds = [] := ⟨fun h => List.length_eq_zero_iff.mp (by omega), fun h => by rw [h]; rfl⟩
            refine iteF ⟨p, rfl, _, h1, _, i0, _, lenV, _, _, rfl, .inr (W.onep H), rfl, ?_, _, rfl, ?_⟩
            · exact flatS (["print", "pub"].map PySem.Str.ofString)
            have e1 := inS w0 onePart
            have e2 := inS w0 twoParts
            have e1' : inV (V.str w0) (["print", "pub"].map fun x => V.str (PySem.Str.ofString x)) = onePart.any fun u => decide (u = w0) := e1
            have e2' : inV (V.str w0) (["pair", "lock", "shut", "seal"].map fun x => V.str (PySem.Str.ofString x)) = twoParts.any fun u => decide (u = w0) := e2
            rw [e1']
            cases c1 : onePart.any fun u => decide (u = w0) with
            | true =>
              refine iteT ?_
              by_cases hds : ds = []
              · rw [if_pos (l2.mpr hds)]
                refine ⟨p, rfl, _, h1, _, i1, by decide, fun D hD => ?_⟩
                refine yes [da] ?_ D [va] _ (Same.new hD) hD upd_same (.cons (Dp.sm (Same.new hD) _ _ ka) .nil)
                simp only [partsD, c1, hds, List.length_nil, if_true]
              · rw [if_neg (fun h => hds (l2.mp h))]
                refine nope ?_ H (Same.refl H)
                have : ds.length ≠ 0 := fun h => hds (List.length_eq_zero_iff.mp h)
                simp only [partsD, c1, if_true, if_neg this]
            | false =>
              refine iteF ⟨_, _, rfl, .inr (W.two H), rfl, flatS (["pair", "lock", "shut", "seal"].map PySem.Str.ofString), _, rfl, ?_⟩
              simp only [if_true]
              rw [e2']
              cases c2 : twoParts.any fun u => decide (u = w0) with
              | false =>
                refine iteT ⟨V.ref p, w0, da, ds, rfl, .tup h1 (.cons (.str w0) (.cons ka kv)), by simpa [okS] using ok0, okS_short oka, by have := hs2.1; simp only [List.length_cons] at this; omega, fun H1 s1 => ⟨_, rfl, ?_⟩⟩
                by_cases c3 : atomD w0 (da :: ds) = true
                · rw [if_pos c3]
                  refine ⟨by decide, fun D hD => yes [] ?_ D [] _ (Same.trans s1 (Same.new hD)) (Same.none s1 hD) upd_same .nil⟩
                  simp only [partsD, c1, c2, c3, if_true, Bool.false_eq_true, if_false]
                · rw [if_neg c3]
                  refine nope ?_ H1 s1
                  have c3' : atomD w0 (da :: ds) = false := by simpa using c3
                  simp only [partsD, c1, c2, c3', Bool.false_eq_true, if_false]
              | true =>
                refine iteF ?_
                have nopeH : partsD (.tuple (.str w0 :: da :: ds)) = none → Q V.non H := fun e => nope e H (Same.refl H)
                have eP : partsD (.tuple (.str w0 :: da :: ds)) = (match ds with
                  | [b] => if decide (w0 = "shut") && !shutOk b then none else some [da, b]
                  | _ => none) := by
                  match ds with
                  | [] => simp only [partsD, c1, c2, if_true, Bool.false_eq_true, if_false]
                  | [_] => simp only [partsD, c1, c2, if_true, Bool.false_eq_true, if_false]
                  | _ :: _ :: _ => simp only [partsD, c1, c2, if_true, Bool.false_eq_true, if_false]
                cases kv with
                | nil => exact iteT (nopeH eP)
                | @cons vb vs2 b ds2 kb kv2 =>
                  cases kv2 with
                  | cons _ _ =>
                    rw [decide_eq_false (by simp only [List.length_cons]; omega)]
                    exact iteT (nopeH eP)
                  | nil =>
                    have i1 : atI [V.str w0, va, vb] 1 = some va := rfl
                    have i2 : atI [V.str w0, va, vb] 2 = some vb := rfl
                    have lb : b.canLay0 = true := by
                      simp only [PyData.canLay0, PyData.canLayAll0, Bool.and_eq_true] at hlay
                      exact hlay.2.2.1
                    have ret : (decide (w0 = "shut") && !shutOk b) = false → ∀ (D : Addr), H D = none → Q (V.ref D) (upd H D (HO.lst [va, vb])) := fun e D hD => by
                      refine yes [da, b] ?_ D [va, vb] _ (Same.new hD) hD upd_same (.cons (Dp.sm (Same.new hD) _ _ ka) (.cons (Dp.sm (Same.new hD) _ _ kb) .nil))
                      rw [eP]
                      simp only [e, Bool.false_eq_true, if_false]
                    refine iteF ⟨trivial, ?_⟩
                    by_cases c3 : w0 = Str.ofString "shut"
                    · rw [if_pos (by rw [c3])]
                      have bad : shutOk b = false → Q V.non H := fun e => nopeH (by rw [eP]; simp [c3, e])
                      have good : shutOk b = true → ∀ (D : Addr), H D = none → Q (V.ref D) (upd H D (HO.lst [va, vb])) := fun e => ret (by rw [e]; simp)
                      clear ret eP nopeH nope yes
                      refine ⟨p, rfl, _, h1, vb, i2, by decide, _, IsaV.of kb, ?_⟩
                      cases kb with
                      | @tup pb ws es m1 m2 =>
                        have hml := DpAll.length m2
                        refine iteF ⟨p, rfl, _, h1, _, i2, ws.length, .inr ⟨_, m1, rfl⟩, ?_⟩
                        cases m2 with
                        | nil => exact iteT (bad rfl)
                        | @cons u0 ws1 e0 es1 n0 m3 =>
                          cases m3 with
                          | nil => exact iteT (bad (by cases e0 <;> rfl))
                          | @cons u1 ws2 e1 es2 n1 m4 =>
                            cases m4 with
                            | cons _ _ =>
                              rw [decide_eq_false (by simp only [List.length_cons]; omega)]
                              exact iteT (bad (by cases e0 <;> rfl))
                            | nil =>
                              refine iteF ⟨p, rfl, _, h1, _, i2, .inr (.inl ⟨pb, _, 0, u0, rfl, rfl, m1, rfl, ?_⟩)⟩
                              have le : e0.canLay0 = true := by
                                simp only [PyData.canLay0, PyData.canLayAll0, Bool.and_eq_true] at lb
                                exact lb.1
                              refine ⟨e0, .str (Str.ofString "pub"), n0, .str _, le, by decide +kernel, by simp [PyData.depth], _, rfl, ?_⟩
                              by_cases hstr : ∃ y, e0 = .str y
                              · obtain ⟨y, rfl⟩ := hstr
                                rw [eqv_ss]
                                by_cases hy : y = Str.ofString "pub"
                                · rw [decide_eq_true hy]
                                  exact iteF ⟨p, rfl, _, h1, va, i1, p, rfl, _, h1, _, i2, by decide, fun D hD => good (decide_eq_true hy) D hD⟩
                                · rw [decide_eq_false hy]
                                  exact iteT (bad (decide_eq_false hy))
                              · rw [eqv_ns (fun y e => hstr ⟨y, e⟩)]
                                refine iteT (bad ?_)
                                cases e0 with
                                | str y => exact absurd ⟨y, rfl⟩ hstr
                                | _ => rfl
                      | _ => exact iteT (bad rfl)
                    · rw [if_neg (fun h => c3 (by injection h))]
                      refine ⟨p, rfl, _, h1, va, i1, p, rfl, _, h1, vb, i2, by decide, fun D hD => ret ?_ D hD⟩
                      rw [decide_eq_false c3, Bool.false_and]
          | _ => exact iteT (nope rfl H (Same.refl H))
    | _ => exact iteT (by
        have : ∀ H', Same H H' → Q .non H' := hq
        exact this H (Same.refl H))
end
end WW

set_option maxHeartbeats 4000000
namespace WW
open PySem PySem.Spec PyProof.Rows L2
local macro_rules | `(tactic| walk_at "x") => `(tactic| simp only [tSeq, tNext, tAsg, gName, tRet, tRetN, tIfS, tOp, tUn, rI, rI0, rU, tTest, tB, tAnd, tOr, tNot, tAndV, tOrV, tNotV, tIf, tCons, tNil, tTup, tLst, tCall, tCallS, tMeth, tMake, tFld, sFld, tBM, tBM0, tCB, tSl, tPart, tNoPart, tDrop, tPar, tPar3, tAug, ipI, gTup, gCons, gNil, gSub, rSetL, rAppend, rPop, rIxL, rIxS, rIxT, rEq, rNe, tChain, tNever, tThen, tVar, tC, L2.start, List.map_cons, List.map_nil, List.length_cons, List.length_nil, List.replicate_succ, List.replicate_zero, List.append_nil, List.nil_append, List.cons_append, Nat.reduceAdd, Nat.reduceSub, Nat.add_zero, Nat.zero_add, Nat.sub_zero, Nat.sub_self,
  List.getElem?_cons_zero, List.getElem?_cons_succ, Option.some.injEq, exists_eq_left', exists_eq_left, exists_eq', exists_eq, exists_and_left, List.set_cons_zero, List.set_cons_succ, V.int.injEq, V.bl.injEq, V.str.injEq, V.ref.injEq, V.ty.injEq, List.cons.injEq, and_true, true_and, and_assoc, if_true, if_false, Bool.false_eq_true, reduceCtorEq, false_and, and_false, exists_false, false_or, or_false, Bool.not_true, Bool.not_false, decide_eq_true_eq, ite_true, ite_false, WE, cxOf_K, cxOf_mg, rSlS, scal, wipe, mem_low, mem_dig, mem_brk, mem_brk4, sgn_inj, Bool.decide_eq_true])

/-- the loop of is_term, is_grown: the waiting terms (the next one first), how many so far -/
def grow (mD mN : Nat) : Nat → List (PyData × Nat) → Nat → Bool
  | 0, _, _ => false
  | _ + 1, [], _ => true
  | f + 1, (t, k) :: l, c => match partsD t with
    | none => false
    | some ps => if decide (mD < k) || decide (mN < c + 1) then false else grow mD mN f ((ps.map fun p => (p, k + 1)).reverse ++ l) (c + 1)
def growD (mD mN : Nat) (d : PyData) : Bool := grow mD mN (mN + 2) [(d, 1)] 0
def DpS (K : PySem.W.Frag) (H0 H : Hp) (v : V) (d : PyData) : Prop := (imm d = true ∧ Dp K H v d) ∨ (partsD d = none ∧ Dp K H0 v d)
def GIt (K : PySem.W.Frag) (H0 H : Hp) (a : Addr) (e : PyData × Nat) : Prop := ∃ v, SqT K H a [v, .int ((e.2 : Nat) : Int)] ∧ DpS K H0 H v e.1 ∧ okS e.1 = true ∧ e.1.canLay0 = true
inductive GSt (K : PySem.W.Frag) (H0 H : Hp) : List Addr → List (PyData × Nat) → Prop
  | nil : GSt K H0 H [] []
  | cons {a e as l} : GIt K H0 H a e → GSt K H0 H as l → GSt K H0 H (a :: as) (e :: l)
section
variable {K : PySem.W.Frag} {H0 H H' : Hp} {as bs : List Addr} {l m : List (PyData × Nat)}
theorem DpS.dp {v : V} {d : PyData} (s : Same H0 H) (h : DpS K H0 H v d) : Dp K H v d := by
  rcases h with h | h
  · exact h.2
  · exact Dp.sm s d v h.2
theorem DpS.tx {v : V} {d : PyData} (t : Tx H H') (h : DpS K H0 H v d) : DpS K H0 H' v d := by
  rcases h with h | h
  · exact .inl ⟨h.1, Dp.tx t d v h.1 h.2⟩
  · exact .inr h
theorem GSt.tx (t : Tx H H') (h : GSt K H0 H as l) : GSt K H0 H' as l := by
  induction h with
  | nil => exact .nil
  | cons a b ih =>
    obtain ⟨v, h1, h2, h3⟩ := a
    exact .cons ⟨v, t.sqt h1, h2.tx t, h3⟩ ih
theorem GSt.len (h : GSt K H0 H as l) : as.length = l.length := by
  induction h with
  | nil => rfl
  | cons _ _ ih => rw [List.length_cons, List.length_cons, ih]
theorem GSt.app (h : GSt K H0 H as l) (g : GSt K H0 H bs m) : GSt K H0 H (as ++ bs) (l ++ m) := by
  induction h with
  | nil => exact g
  | cons a b ih => exact .cons a ih
theorem GSt.rev (h : GSt K H0 H as l) : GSt K H0 H as.reverse l.reverse := by
  induction h with
  | nil => exact .nil
  | cons a b ih =>
    rw [List.reverse_cons, List.reverse_cons]
    exact ih.app (.cons a .nil)
end
theorem imm_get {ds : List PyData} (h : imm.immAll ds = true) : ∀ d ∈ ds, imm d = true := by
  induction ds with
  | nil => intro _ h; cases h
  | cons c ds ih =>
    simp only [imm.immAll, Bool.and_eq_true] at h
    intro d hd
    rcases List.mem_cons.mp hd with rfl | hd
    · exact h.1
    · exact ih h.2 d hd
theorem okS_get {ds : List PyData} (h : okS.okSs ds = true) : ∀ d ∈ ds, okS d = true := by
  induction ds with
  | nil => intro _ h; cases h
  | cons c ds ih =>
    simp only [okS.okSs, Bool.and_eq_true] at h
    intro d hd
    rcases List.mem_cons.mp hd with rfl | hd
    · exact h.1
    · exact ih h.2 d hd
theorem lay_get {ds : List PyData} (h : PyData.canLayAll0 ds = true) : ∀ d ∈ ds, d.canLay0 = true := by
  induction ds with
  | nil => intro _ h; cases h
  | cons c ds ih =>
    simp only [PyData.canLayAll0, Bool.and_eq_true] at h
    intro d hd
    rcases List.mem_cons.mp hd with rfl | hd
    · exact h.1
    · exact ih h.2 d hd
theorem parts_sub {d : PyData} {ps : List PyData} (h : partsD d = some ps) : ∃ ds, d = .tuple ds ∧ ps.length ≤ 2 ∧ ∀ p ∈ ps, p ∈ ds := by
  unfold partsD at h
  split at h
  · rename_i w a ds
    refine ⟨_, rfl, ?_⟩
    split at h
    · split at h
      · cases h; exact ⟨by simp, by simp⟩
      · cases h
    · split at h
      · split at h
        · split at h
          · cases h
          · cases h; exact ⟨by simp, by simp⟩
        · cases h
      · split at h
        · cases h; exact ⟨by simp, by simp⟩
        · cases h
  · cases h
theorem parts_ok {d : PyData} {ps : List PyData} (h : partsD d = some ps) : (imm d = true → ∀ p ∈ ps, imm p = true) ∧ (okS d = true → ∀ p ∈ ps, okS p = true) ∧ (d.canLay0 = true → ∀ p ∈ ps, p.canLay0 = true) := by
  obtain ⟨ds, rfl, _, hm⟩ := parts_sub h
  refine ⟨fun h p hp => imm_get (by simpa [imm] using h) p (hm p hp), fun h p hp => okS_get ?_ p (hm p hp), fun h p hp => lay_get (by simpa only [PyData.canLay0] using h) p (hm p hp)⟩
  simp only [okS, Bool.and_eq_true] at h
  exact h.2
def gInv (K : PySem.W.Frag) (mD mN : Nat) (x : V) (d0 : PyData) (H0 : Hp) (Wa : Addr) (f : Nat) (σ : L2.St) (H : Hp) : Prop := ∃ as l c y3 y4 y5 y6, σ = [some x, some (.ref Wa), some (.int ((c : Nat) : Int)), y3, y4, y5, y6] ∧ Same H0 H ∧ H0 Wa = none ∧ H Wa = some (.lst (as.map V.ref).reverse) ∧ GSt K H0 H as l ∧ growD mD mN d0 = grow mD mN f l c ∧ f + c = mN + 2 ∧ l.length ≤ 2 * c + 1 ∧ c ≤ mN
def spGrow (K : PySem.W.Frag) (mD mN : Nat) : Sp := fun vs H Q _ => ∃ x d, vs = [x] ∧ Dp K H x d ∧ okS d = true ∧ d.canLay0 = true ∧ (imm d = true ∨ partsD d = none) ∧ ∀ H', Same H H' → Q (.bl (growD mD mN d)) H'
section
variable {P : Program} {w : World} {K : PySem.W.Frag} {mg : Str → Option Value} {base : Heap}
theorem o_is_term (W : Wd fa fn K mg) : OkF P w K mg base d_is_term 4 ["value"] (spGrow K 14 80) := by
  have o_parts_of := o_parts_of (P := P) (w := w) (base := base) W
  obtain ⟨fd_parts_of, F_parts_of, b_parts_of, k_parts_of⟩ := o_parts_of.ex
  refine okf W (d := d_is_term) 4 sc_is_term rfl rfl (fun _ _ _ _ _ _ us hl => match us, hl with | [_], _ => rfl) ?len (fun cdv A outer s H vs Q E hr nd hu tk po h => ?body)
  case len =>
    rintro vs H Q E ⟨x, _, rfl, _⟩
    rfl
  case body =>
    refine ⟨_, (pss_cons (ps_par (i := 1) (j := 2) (by rfl) nd rfl rfl (by decide) rfl rfl (pa_cons (pe_lst (pa_cons (pe_tup (pa_cons (pv 0) (pa_cons pe_int pa_nil))) pa_nil)) (pa_cons pe_int pa_nil)) (by rfl))
    (pss_cons (ps_while po (pt_cmpR op_gt (pe_callB call_len (by rfl) (W.free 7) (by decide +kernel) (pa_cons (pv 1) pa_nil)) pe_int (nomark _))
      (pss_cons (ps_asg (pe_bm0 PySem.F.plainAttrs_list PySem.F.slot_list_pop PySem.F.type_list_pop mt_pop (pv 1)) (pg_tup rfl (pgs_cons (pg_name (i := 3) nd rfl (by first | exact Or.inl rfl | exact Or.inr rfl)) (pgs_cons (pg_name (i := 4) nd rfl (by first | exact Or.inl rfl | exact Or.inr rfl)) pgs_nil))))
    (pss_cons (ps_set (i := 5) nd rfl (by first | exact Or.inl rfl | exact Or.inr rfl) (by exact (pe_callS F_parts_of (hr.mono (by first | decide | omega)) rfl (W.glo 18) k_parts_of b_parts_of (fun σ => passAt tk σ) (by exact (pa_cons (pv 3) pa_nil)))))
    (pss_cons (ps_aug (i := 2) nd rfl (by first | exact Or.inl rfl | exact Or.inr rfl) pe_int ip_add)
    (pss_cons (ps_if (PW.pt (pw_or (pt_cmpR op_isN (pv 5) pe_non (nomark _)) (pw_or (pt_cmpR op_gt (pv 4) (C8.pe_gc rfl (W.intV 20)) (nomark _)) (pw_or1 (pt_cmpR op_gt (pv 2) (C8.pe_gc rfl (W.intV 19)) (nomark _)))))) (pss_one (ps_ret pe_bl)) pss_nil)
    (pss_one (ps_expr (pe_bm PySem.F.plainAttrs_list PySem.F.slot_list_extend PySem.F.type_list_extend mt_extend (pv 1) (pa_cons (pe_lc (own := [("part", 6)]) (g := (gName 6)) (tt := tYes) rfl nd (pi_list (pv 5)) (blkOk_by (own := [("part", 6)]) (N := ["value", "waiting", "count", "term", "depth", "parts", "part"]) (sc := defScope s_is_term) (by decide +kernel)) (fun _ _ _ _ _ => (pg_name (i := 6) nd rfl (by first | exact Or.inl rfl | exact Or.inr rfl))) (fun _ _ _ _ _ => pts_nil) (fun _ _ _ _ _ => (pe_tup (pa_cons (pv 6) (pa_cons (pe_op op_add (pv 4) pe_int) pa_nil))))) pa_nil)))))))))
    (pss_one (ps_ret pe_bl)))), ?_⟩
    obtain ⟨x, d, rfl, hd, hs, hlay, him, hq⟩ := h
    clear tk po
    have szl := sizeLine_eq
    walk_at "x"
    refine ⟨by decide, fun p hp => ⟨by decide, fun Wa hWa => ?_⟩⟩
    have nWp : Wa ≠ p := fun e => by rw [e, upd_same] at hWa; cases hWa
    rw [upd_ne nWp] at hWa
    have s0 := Same.mut (o := HO.lst [V.ref p]) (Same.new (o := HO.tup [x, V.int 1]) hp) hWa
    unfold tWhile
    refine ⟨gInv K 14 80 x d H Wa, ⟨80 + 2, [p], [(d, 1)], 0, none, none, none, none, rfl, s0, hWa, by rw [upd_same]; rfl, .cons ⟨x, SqT.of (by rw [upd_ne nWp.symm, upd_same]; rfl), ?_, hs, hlay⟩ .nil, rfl, by omega, by simp, by omega⟩, ?_⟩
    · rcases him with h | h
      · exact .inl ⟨h, Dp.sm s0 d x hd⟩
      · exact .inr ⟨h, hd⟩
    rintro f σ H1 ⟨as, l, c, y3, y4, y5, y6, rfl, sm, bW, hw, hst, hg, hfc, hlc, hcN⟩
    have hal := hst.len
    walk_at "x"
    refine ⟨as.length, .inl ⟨_, SqL.of hw, by simp⟩, ?_⟩
    obtain ⟨f, rfl⟩ : ∃ f', f = f' + 1 := ⟨f - 1, by omega⟩
    cases l with
    | nil =>
      rw [if_neg (by rw [hal]; decide)]
      have : growD 14 80 d = true := by rw [hg]; rfl
      rw [this] at hq
      exact hq H1 sm
    | cons e l =>
      obtain ⟨a, as', rfl⟩ : ∃ a as', as = a :: as' := by
        cases as with
        | nil => simp at hal
        | cons a as' => exact ⟨a, as', rfl⟩
      rw [if_pos (by rw [List.length_cons]; omega)]
      obtain ⟨t, k⟩ := e
      have hx : ((a :: as').map V.ref).reverse = (as'.map V.ref).reverse ++ [.ref a] := by simp
      have hw' : H1 Wa = some (.lst ((as'.map V.ref).reverse ++ [.ref a])) := by rw [← hx]; exact hw
      have ix : ((as'.map V.ref).reverse ++ [V.ref a])[((as'.map V.ref).reverse ++ [V.ref a]).length - 1]? = some (.ref a) := by simp
      have dl : ((as'.map V.ref).reverse ++ [V.ref a]).dropLast = (as'.map V.ref).reverse := List.dropLast_concat
      have t1 : Tx H1 (upd H1 Wa (.lst (as'.map V.ref).reverse)) := Tx.up hw noTup_l
      have sm1 : Same H (upd H1 Wa (.lst (as'.map V.ref).reverse)) := Same.mut sm bW
      obtain ⟨⟨v, q1, q2, q3, q4⟩, hst'⟩ : GIt K H H1 a (t, k) ∧ GSt K H H1 as' l := by
        cases hst with
        | cons h1 h2 => exact ⟨h1, h2⟩
      refine ⟨fun σ' H' => ∃ m', m' < f + 1 ∧ gInv K 14 80 x d H Wa m' σ' H', fun σ' H' h => h, tyLst hw, _, hw', _, ix, a, rfl, _, by rw [dl]; exact t1.sqt q1, rfl, _, _, rfl, _, _, rfl, rfl, ?_⟩
      rw [dl]
      have q2' := q2.tx t1
      have hst1 := hst'.tx t1
      generalize hH2 : upd H1 Wa (.lst (as'.map V.ref).reverse) = H2 at t1 sm1 q2' hst1
      have hw2 : H2 Wa = some (.lst (as'.map V.ref).reverse) := by rw [← hH2, upd_same]
      refine ⟨v, t, rfl, q2'.dp sm1, q3, q4, ?_⟩
      have hgt : grow 14 80 (f + 1) ((t, k) :: l) c = (match partsD t with
        | none => false
        | some ps => if decide (14 < k) || decide (80 < c + 1) then false else grow 14 80 f ((ps.map fun p => (p, k + 1)).reverse ++ l) (c + 1)) := rfl
      rw [hgt] at hg
      cases hpt : partsD t with
      | none =>
        rw [hpt] at hg
        rw [hg] at hq
        intro H3 s3
        simp only [List.set_cons_zero, List.set_cons_succ, if_true]
        exact hq H3 (Same.trans sm1 s3)
      | some ps =>
        rw [hpt] at hg
        intro D xs H3 s3 hD hDl hxs
        simp only [List.set_cons_zero, List.set_cons_succ]
        rw [if_neg (show ¬ V.ref D = V.non from fun e => by cases e)]
        refine ⟨_, rfl, ?_⟩
        simp only at hg
        have sm3 := Same.trans sm1 s3
        by_cases hk : 14 < k
        · rw [if_pos (by omega)]
          rw [decide_eq_true hk, Bool.true_or, if_pos rfl] at hg
          rw [hg] at hq
          exact hq H3 sm3
        · rw [if_neg (by omega)]
          by_cases hc : 80 < c + 1
          · rw [if_pos (by omega)]
            rw [decide_eq_true hc, Bool.or_true, if_pos rfl] at hg
            rw [hg] at hq
            exact hq H3 sm3
          · rw [if_neg (by omega)]
            rw [decide_eq_false hk, decide_eq_false hc, Bool.or_self, if_neg (by decide)] at hg
            have hw3 := s3 _ _ hw2
            have hst3 := hst1.tx (Tx.of s3)
            obtain ⟨_, _, hps2, _⟩ := parts_sub hpt
            obtain ⟨pk1, pk2, pk3⟩ := parts_ok hpt
            have hxl := DpAll.length hxs
            refine ⟨tyLst hw3, ?_⟩
            refine tLc_of (walk_list (K := K) (a := D) (xs := xs)) (H1 := H3) ?_ (fun D' i H' => Same H3 H' ∧ H3 D' = none ∧ ∃ bs, H' D' = some (.lst (bs.map V.ref)) ∧ GSt K H H' bs ((ps.take i).map fun p => (p, k + 1))) ?_ ?_ ?_ ?_
            · intro R hR
              simp only [iList]
              walk_at "x"
              exact ⟨⟨_, SqL.of hDl⟩, hR⟩
            · intro D' hD'
              exact ⟨Same.new hD', hD', [], by rw [upd_same]; rfl, .nil⟩
            · rintro D' i H' _ ⟨s4, _, _⟩
              exact SqL.of (s4 _ _ hDl)
            · rintro D' i vi H4 H5 hi ⟨s4, hD', bs, hbs, hgs⟩ ⟨rfl, hvi⟩
              obtain ⟨di, hdi, hdp⟩ := DpAll.get hxs hvi
              have hmem := List.mem_of_getElem? hdi
              walk_at "x"
              refine ⟨by decide, fun p hp => ?_⟩
              have nD : D' ≠ p := ne_of_none hbs hp
              have tA : Tx H5 (upd H5 p (HO.tup [vi, V.int (((k + 1 : Nat)) : Int)])) := Tx.nw hp
              have tB : Tx (upd H5 p (HO.tup [vi, V.int (((k + 1 : Nat)) : Int)])) (upd (upd H5 p (HO.tup [vi, V.int (((k + 1 : Nat)) : Int)])) D' (.lst (bs.map V.ref ++ [.ref p]))) := Tx.up (by rw [upd_ne nD]; exact hbs) noTup_l
              have hgl := hgs.len
              have im : imm di = true := by
                rcases q2' with h | h
                · exact pk1 h.1 di hmem
                · rw [h.1] at hpt; cases hpt
              refine ⟨_, by rw [upd_ne nD]; exact hbs, ?_, Same.mut (Same.trans s4 (Same.new hp)) hD', hD', bs ++ [p], ?_, ?_⟩
              · rw [List.length_map, hgl, List.length_map, List.length_take, szl]
                omega
              · rw [upd_same]
                simp
              · rw [List.take_succ, hdi]
                simp only [Option.toList, List.map_append, List.map_cons, List.map_nil]
                refine (hgs.tx (tA.trans tB)).app (.cons ⟨vi, SqT.of (by rw [upd_ne nD.symm, upd_same]), .inl ⟨im, ?_⟩, pk2 q3 di hmem, pk3 q4 di hmem⟩ .nil)
                exact Dp.tx ((Tx.of s4).trans (tA.trans tB)) di vi im hdp
            · rintro D' H4 ⟨s4, hD', bs, hbs, hgs⟩
              rw [hxl, List.take_length] at hgs
              have hw4 := s4 _ _ hw3
              have hgl := hgs.len
              rw [List.length_map] at hgl
              have hal' := hst1.len
              rw [List.length_cons] at hlc
              refine ⟨Wa, D', _, _, rfl, rfl, hw4, hbs, ?_, f, Nat.lt_succ_self f, bs.reverse ++ as', (ps.map fun p => (p, k + 1)).reverse ++ l, c + 1, _, _, _, _, rfl, Same.mut (Same.trans sm3 s4) bW, bW, ?_, ?_, hg, by omega, ?_, by omega⟩
              · simp only [List.length_reverse, List.length_map]
                omega
              · rw [upd_same]
                simp
              · have tW : Tx H4 (upd H4 Wa (.lst ((as'.map V.ref).reverse ++ bs.map V.ref))) := Tx.up hw4 noTup_l
                exact (hgs.tx tW).rev.app ((hst3.tx (Tx.of s4)).tx tW)
              · rw [List.length_append, List.length_reverse, List.length_map]
                omega
end
end WW

set_option maxHeartbeats 4000000
namespace WW
open PySem PySem.Spec PyProof.Rows L2
local macro_rules | `(tactic| walk_at "x") => `(tactic| simp only [tSeq, tNext, tAsg, gName, tRet, tRetN, tIfS, tOp, tUn, rI, rI0, rU, tTest, tB, tAnd, tOr, tNot, tAndV, tOrV, tNotV, tIf, tCons, tNil, tTup, tLst, tCall, tCallS, tMeth, tMake, tFld, sFld, tBM, tBM0, tCB, tSl, tPart, tNoPart, tDrop, tPar, tPar3, tAug, ipI, gTup, gCons, gNil, gSub, rSetL, rAppend, rPop, rIxL, rIxS, rIxT, rEq, rNe, tChain, tNever, tThen, tVar, tC, L2.start, List.map_cons, List.map_nil, List.length_cons, List.length_nil, List.replicate_succ, List.replicate_zero, List.append_nil, List.nil_append, List.cons_append, Nat.reduceAdd, Nat.reduceSub, Nat.add_zero, Nat.zero_add, Nat.sub_zero, Nat.sub_self,
  List.getElem?_cons_zero, List.getElem?_cons_succ, Option.some.injEq, exists_eq_left', exists_eq_left, exists_eq', exists_eq, exists_and_left, List.set_cons_zero, List.set_cons_succ, V.int.injEq, V.bl.injEq, V.str.injEq, V.ref.injEq, V.ty.injEq, List.cons.injEq, and_true, true_and, and_assoc, if_true, if_false, Bool.false_eq_true, reduceCtorEq, false_and, and_false, exists_false, false_or, or_false, Bool.not_true, Bool.not_false, decide_eq_true_eq, ite_true, ite_false, WE, cxOf_K, cxOf_mg, rSlS, scal, wipe, mem_low, mem_dig, mem_brk, mem_brk4, sgn_inj, Bool.decide_eq_true])

def strD : PyData → List Nat
  | .str z => z.cps.toList
  | .int i => (Str.ofString (toString i)).cps.toList
  | _ => []
mutual
/-- shown -/
def wS : PyData → List Nat
  | .tuple ds => 40 :: (wSs ds ++ [41])
  | .str z => strD (.str z)
  | .int i => strD (.int i)
  | _ => []
def wSs : List PyData → List Nat
  | [] => []
  | d :: ds => if ds.isEmpty then wS d else wS d ++ 32 :: wSs ds
end
mutual
/-- of words and short numbers, less deep than n -/
def flatT : Nat → PyData → Bool
  | 0, _ => false
  | n + 1, .tuple ds => flatTs n ds
  | _ + 1, .str _ => true
  | _ + 1, .int i => decide (i.natAbs < 1000)
  | _ + 1, _ => false
def flatTs : Nat → List PyData → Bool
  | _, [] => true
  | n, d :: ds => flatT n d && flatTs n ds
end
def spShown (K : PySem.W.Frag) (n : Nat) : Sp := fun vs H Q _ => ∃ x d, vs = [x] ∧ Dp K H x d ∧ flatT n d = true ∧ (wS d).length ≤ 1000000 ∧ ∀ H', Same H H' → Q (.str (S (wS d))) H'
theorem wSs_cons (d : PyData) (ds : List PyData) : wSs (d :: ds) = if ds.isEmpty then wS d else wS d ++ 32 :: wSs ds := by simp only [wSs]
theorem wSs_each : ∀ (ds : List PyData), ∀ d ∈ ds, (wS d).length ≤ (wSs ds).length
  | [], _, h => nomatch h
  | c :: ds, d, h => by
    rw [wSs_cons]
    rcases List.mem_cons.mp h with rfl | h
    · split
      · exact Nat.le_refl _
      · rw [List.length_append]; omega
    · have := wSs_each ds d h
      rw [if_neg (by cases ds with | nil => cases h | cons _ _ => simp)]
      rw [List.length_append, List.length_cons]
      omega
theorem wSs_count : ∀ (ds : List PyData), ds.length ≤ (wSs ds).length + 1
  | [] => by simp
  | c :: ds => by
    rw [wSs_cons, List.length_cons]
    have := wSs_count ds
    split
    · cases ds with
      | nil => simp
      | cons _ _ => simp at *
    · rw [List.length_append, List.length_cons]
      omega
theorem wSs_sum : ∀ (ds : List PyData), (ds.map fun d => (wS d).length).sum ≤ (wSs ds).length
  | [] => by simp
  | c :: ds => by
    rw [wSs_cons, List.map_cons, List.sum_cons]
    have := wSs_sum ds
    split
    · cases ds with
      | nil => simp
      | cons _ _ => simp at *
    · rw [List.length_append, List.length_cons]
      omega
theorem flatTs_get {n : Nat} {ds : List PyData} (h : flatTs n ds = true) {i : Nat} {d : PyData} (e : ds[i]? = some d) : flatT n d = true := by
  induction ds generalizing i with
  | nil => simp at e
  | cons c ds ih =>
    simp only [flatTs, Bool.and_eq_true] at h
    cases i with
    | zero => simp at e; exact e ▸ h.1
    | succ i => exact ih h.2 (by simpa using e)
theorem joinL_32 : ∀ ds : List PyData, TL.joinL [32] (ds.map wS) = wSs ds
  | [] => by simp [TL.joinL, wSs]
  | [d] => by simp [TL.joinL, wSs]
  | d :: e :: ds => by
    have ih := joinL_32 (e :: ds)
    rw [wSs_cons, ← ih]
    simp [TL.joinL]
theorem join_wSs (ds : List PyData) : Txt.join (Str.ofString " ") (ds.map fun d => S (wS d)) = S (wSs ds) := by
  apply str_ext
  rw [show (Txt.join (Str.ofString " ") (ds.map fun d => S (wS d))).cps.toList = TL.tl (Txt.join (Str.ofString " ") (ds.map fun d => S (wS d))) from rfl, TL.join_eq, TL.tl_join]
  rw [show TL.tl (Str.ofString " ") = [32] by decide +kernel, List.map_map, show (TL.tl ∘ fun d => S (wS d)) = wS from rfl, joinL_32]
  rfl
theorem small_P43 {i : Int} (h : i.natAbs < 1000) : i.natAbs < P43 := Nat.lt_trans h (by decide +kernel)
theorem sp_lit : Str.ofString " " = S [32] := by decide +kernel
theorem op_lit : Str.ofString "(" = S [40] := by decide +kernel
theorem cl_lit : Str.ofString ")" = S [41] := by decide +kernel
section
variable {P : Program} {w : World} {K : PySem.W.Frag} {mg : Str → Option Value} {base : Heap}
theorem shown_step (n : Nat) (W : Wd fa fn K mg) (o_shown : OkF P w K mg base d_shown (n + 1) ["term"] (spShown K n)) : OkF P w K mg base d_shown (n + 1 + 1) ["term"] (spShown K (n + 1)) := by
  obtain ⟨fd_shown, F_shown, b_shown, k_shown⟩ := o_shown.ex
  refine okf W (d := d_shown) 6 sc_shown rfl rfl (fun _ _ _ _ _ _ us hl => match us, hl with | [_], _ => rfl) ?len (fun cdv A outer s H vs Q E hr nd hu tk po h => ?body)
  case len =>
    rintro vs H Q E ⟨_, _, rfl, _⟩
    rfl
  case body =>
    refine ⟨_, (pss_cons (ps_if (pt_val (pe_callB call_isiV (by rfl) (W.free 0) (by decide +kernel) (pa_cons (pv 0) (pa_cons (pe_bltn (v := .ty "tuple") (u := .type "tuple") rfl (W.free 14) (by decide +kernel) rfl) pa_nil)))) (pss_one (ps_ret (pe_op op_add_str (pe_op op_add_str pe_str (pe_bm PySem.F.plainAttrs_str PySem.F.slot_str_join PySem.F.type_str_join mt_join pe_str (pa_cons (pe_lc (own := [("part", 1)]) (g := (gName 1)) (tt := tYes) rfl nd (pi_tup (pv 0)) (blkOk_by (own := [("part", 1)]) (N := ["term", "part"]) (sc := defScope s_shown) (by decide +kernel)) (fun _ _ _ _ _ => (pg_name (i := 1) nd rfl (by first | exact Or.inl rfl | exact Or.inr rfl))) (fun _ _ _ _ _ => pts_nil) (fun _ _ _ _ _ => (pe_call F_shown (hr.mono (by first | decide | omega)) rfl (W.glo 22) k_shown b_shown .nil passL (pa_cons (pv 1) pa_nil)))) pa_nil))) pe_str))) pss_nil)
    (pss_one (ps_ret (pe_callTy (call_str1 rfl W.dg) (by rfl) (W.free 9) (by decide +kernel) (pa_cons (pv 0) pa_nil))))), ?_⟩
    obtain ⟨x, d, rfl, hd, hp, hl, hq⟩ := h
    clear tk po
    walk_at "x"
    simp only [rIsaV]
    walk_at "x"
    refine ⟨by decide, _, IsaV.of hd, ?_⟩
    cases hd with
    | @tup a vs ds h1 h2 =>
      have hp' : flatTs n ds = true := by simpa only [flatT] using hp
      have hvl := DpAll.length h2
      have lens := wSs_each ds
      have hlT : (wS (.tuple ds)).length = (wSs ds).length + 2 := by simp [wS]
      refine iteT ⟨rfl, ?_⟩
      refine tLc_of (walk_tup (K := K) (a := a) (xs := vs)) (H1 := H) ?_ (fun D i H' => Same H H' ∧ H D = none ∧ H' D = some (.lst ((ds.take i).map fun d => .str (S (wS d))))) ?_ ?_ ?_ ?_
      · intro R hR
        simp only [iTup]
        walk_at "x"
        exact ⟨⟨_, h1⟩, hR⟩
      · intro D hD
        exact ⟨Same.new hD, hD, upd_same⟩
      · rintro D i H' _ ⟨sm, hD, _⟩
        exact (Tx.of sm).sqt h1
      · rintro D i y H2 H3 hi ⟨sm, hD, hv⟩ ⟨rfl, hy⟩
        obtain ⟨d, hd', hdp⟩ := DpAll.get h2 hy
        walk_at "x"
        have hpd := flatTs_get hp' hd'
        have hlen := lens d (List.mem_of_getElem? hd')
        refine ⟨y, d, rfl, Dp.sm sm d y hdp, hpd, by omega, fun H4 s4 => ⟨_, s4 _ _ hv, ?_, Same.mut (Same.trans sm s4) hD, hD, ?_⟩⟩
        · rw [List.length_map, List.length_take, sizeLine_eq]
          have := wSs_count ds
          omega
        · rw [upd_same, List.take_succ, hd']
          simp
      · rintro D H2 ⟨sm, hD, hv⟩
        rw [hvl, List.take_length] at hv
        have hv' : H2 D = some (.lst ((ds.map fun d => S (wS d)).map V.str)) := by rw [hv, List.map_map]; rfl
        have j2 : Txt.join (Str.ofString " ") (ds.map fun d => S (wS d)) = S (wSs ds) := join_wSs ds
        refine ⟨D, rfl, ds.map fun d => S (wS d), .inl (SqL.of hv'), ?_, ?_, ?_, ?_⟩
        · have := wSs_count ds
          have e := wSs_sum ds
          rw [show (Str.ofString " ").length = 1 by decide +kernel, List.length_map, List.map_map]
          have e2 : (ds.map ((fun x : Str => x.length) ∘ fun d => S (wS d))) = ds.map fun d => (wS d).length := rfl
          rw [e2]
          omega
        · rw [j2, len_S, show (Str.ofString "(").length = 1 by decide +kernel, sizeLine_eq]
          omega
        · rw [j2, op_lit, S_app, len_S, show (Str.ofString ")").length = 1 by decide +kernel, sizeLine_eq]
          simp
          omega
        · rw [j2, op_lit, cl_lit, S_app, S_app]
          have := hq H2 sm
          simpa [wS] using this
    | str z => exact iteF ⟨_, rfl, hq H (Same.refl H)⟩
    | int i =>
      refine iteF ⟨_, rfl, small_P43 (by simpa [flatT] using hp), ?_⟩
      exact hq H (Same.refl H)
    | _ => simp [flatT] at hp
theorem o_shown (W : Wd fa fn K mg) : ∀ n, OkF P w K mg base d_shown (n + 1) ["term"] (spShown K n) := by
  intro n
  induction n with
  | zero =>
    refine okf W (d := d_shown) 6 sc_shown rfl rfl (fun _ _ _ _ _ _ us hl => match us, hl with | [_], _ => rfl) ?len (fun cdv A outer s H vs Q E hr nd hu tk po h => ?body)
    case len =>
      rintro vs H Q E ⟨_, _, rfl, _⟩
      rfl
    case body =>
      obtain ⟨_, d, _, _, hk, _⟩ := h
      cases d <;> simp [flatT] at hk
  | succ n ih => exact shown_step n W ih
theorem _law_text_step (n : Nat) (W : Wd fa fn K mg) (o__law_text : OkF P w K mg base d__law_text (n + 1) ["term"] (spShown K n)) : OkF P w K mg base d__law_text (n + 1 + 1) ["term"] (spShown K (n + 1)) := by
  obtain ⟨fd__law_text, F__law_text, b__law_text, k__law_text⟩ := o__law_text.ex
  refine okf W (d := d__law_text) 32 sc__law_text rfl rfl (fun _ _ _ _ _ _ us hl => match us, hl with | [_], _ => rfl) ?len (fun cdv A outer s H vs Q E hr nd hu tk po h => ?body)
  case len =>
    rintro vs H Q E ⟨_, _, rfl, _⟩
    rfl
  case body =>
    refine ⟨_, (pss_cons (ps_if (pt_val (pe_callB call_isiV (by rfl) (W.free 0) (by decide +kernel) (pa_cons (pv 0) (pa_cons (pe_bltn (v := .ty "tuple") (u := .type "tuple") rfl (W.free 14) (by decide +kernel) rfl) pa_nil)))) (pss_one (ps_ret (pe_op op_add_str (pe_op op_add_str pe_str (pe_bm PySem.F.plainAttrs_str PySem.F.slot_str_join PySem.F.type_str_join mt_join pe_str (pa_cons (pe_lc (own := [("part", 1)]) (g := (gName 1)) (tt := tYes) rfl nd (pi_tup (pv 0)) (blkOk_by (own := [("part", 1)]) (N := ["term", "part"]) (sc := defScope s__law_text) (by decide +kernel)) (fun _ _ _ _ _ => (pg_name (i := 1) nd rfl (by first | exact Or.inl rfl | exact Or.inr rfl))) (fun _ _ _ _ _ => pts_nil) (fun _ _ _ _ _ => (pe_call F__law_text (hr.mono (by first | decide | omega)) rfl (W.glo 51) k__law_text b__law_text .nil passL (pa_cons (pv 1) pa_nil)))) pa_nil))) pe_str))) pss_nil)
    (pss_one (ps_ret (pe_callTy (call_str1 rfl W.dg) (by rfl) (W.free 9) (by decide +kernel) (pa_cons (pv 0) pa_nil))))), ?_⟩
    obtain ⟨x, d, rfl, hd, hp, hl, hq⟩ := h
    clear tk po
    walk_at "x"
    simp only [rIsaV]
    walk_at "x"
    refine ⟨by decide, _, IsaV.of hd, ?_⟩
    cases hd with
    | @tup a vs ds h1 h2 =>
      have hp' : flatTs n ds = true := by simpa only [flatT] using hp
      have hvl := DpAll.length h2
      have lens := wSs_each ds
      have hlT : (wS (.tuple ds)).length = (wSs ds).length + 2 := by simp [wS]
      refine iteT ⟨rfl, ?_⟩
      refine tLc_of (walk_tup (K := K) (a := a) (xs := vs)) (H1 := H) ?_ (fun D i H' => Same H H' ∧ H D = none ∧ H' D = some (.lst ((ds.take i).map fun d => .str (S (wS d))))) ?_ ?_ ?_ ?_
      · intro R hR
        simp only [iTup]
        walk_at "x"
        exact ⟨⟨_, h1⟩, hR⟩
      · intro D hD
        exact ⟨Same.new hD, hD, upd_same⟩
      · rintro D i H' _ ⟨sm, hD, _⟩
        exact (Tx.of sm).sqt h1
      · rintro D i y H2 H3 hi ⟨sm, hD, hv⟩ ⟨rfl, hy⟩
        obtain ⟨d, hd', hdp⟩ := DpAll.get h2 hy
        walk_at "x"
        have hpd := flatTs_get hp' hd'
        have hlen := lens d (List.mem_of_getElem? hd')
        refine ⟨y, d, rfl, Dp.sm sm d y hdp, hpd, by omega, fun H4 s4 => ⟨_, s4 _ _ hv, ?_, Same.mut (Same.trans sm s4) hD, hD, ?_⟩⟩
        · rw [List.length_map, List.length_take, sizeLine_eq]
          have := wSs_count ds
          omega
        · rw [upd_same, List.take_succ, hd']
          simp
      · rintro D H2 ⟨sm, hD, hv⟩
        rw [hvl, List.take_length] at hv
        have hv' : H2 D = some (.lst ((ds.map fun d => S (wS d)).map V.str)) := by rw [hv, List.map_map]; rfl
        have j2 : Txt.join (Str.ofString " ") (ds.map fun d => S (wS d)) = S (wSs ds) := join_wSs ds
        refine ⟨D, rfl, ds.map fun d => S (wS d), .inl (SqL.of hv'), ?_, ?_, ?_, ?_⟩
        · have := wSs_count ds
          have e := wSs_sum ds
          rw [show (Str.ofString " ").length = 1 by decide +kernel, List.length_map, List.map_map]
          have e2 : (ds.map ((fun x : Str => x.length) ∘ fun d => S (wS d))) = ds.map fun d => (wS d).length := rfl
          rw [e2]
          omega
        · rw [j2, len_S, show (Str.ofString "(").length = 1 by decide +kernel, sizeLine_eq]
          omega
        · rw [j2, op_lit, S_app, len_S, show (Str.ofString ")").length = 1 by decide +kernel, sizeLine_eq]
          simp
          omega
        · rw [j2, op_lit, cl_lit, S_app, S_app]
          have := hq H2 sm
          simpa [wS] using this
    | str z => exact iteF ⟨_, rfl, hq H (Same.refl H)⟩
    | int i =>
      refine iteF ⟨_, rfl, small_P43 (by simpa [flatT] using hp), ?_⟩
      exact hq H (Same.refl H)
    | _ => simp [flatT] at hp
theorem o__law_text (W : Wd fa fn K mg) : ∀ n, OkF P w K mg base d__law_text (n + 1) ["term"] (spShown K n) := by
  intro n
  induction n with
  | zero =>
    refine okf W (d := d__law_text) 32 sc__law_text rfl rfl (fun _ _ _ _ _ _ us hl => match us, hl with | [_], _ => rfl) ?len (fun cdv A outer s H vs Q E hr nd hu tk po h => ?body)
    case len =>
      rintro vs H Q E ⟨_, _, rfl, _⟩
      rfl
    case body =>
      obtain ⟨_, d, _, _, hk, _⟩ := h
      cases d <;> simp [flatT] at hk
  | succ n ih => exact _law_text_step n W ih
end
end WW

set_option maxHeartbeats 4000000
namespace WW
open PySem PySem.Spec PyProof.Rows L2
local macro_rules | `(tactic| walk_at "x") => `(tactic| simp only [tSeq, tNext, tAsg, gName, tRet, tRetN, tIfS, tOp, tUn, rI, rI0, rU, tTest, tB, tAnd, tOr, tNot, tAndV, tOrV, tNotV, tIf, tCons, tNil, tTup, tLst, tCall, tCallS, tMeth, tMake, tFld, sFld, tBM, tBM0, tCB, tSl, tPart, tNoPart, tDrop, tPar, tPar3, tAug, ipI, gTup, gCons, gNil, gSub, rSetL, rAppend, rPop, rIxL, rIxS, rIxT, rEq, rNe, tChain, tNever, tThen, tVar, tC, L2.start, List.map_cons, List.map_nil, List.length_cons, List.length_nil, List.replicate_succ, List.replicate_zero, List.append_nil, List.nil_append, List.cons_append, Nat.reduceAdd, Nat.reduceSub, Nat.add_zero, Nat.zero_add, Nat.sub_zero, Nat.sub_self,
  List.getElem?_cons_zero, List.getElem?_cons_succ, Option.some.injEq, exists_eq_left', exists_eq_left, exists_eq', exists_eq, exists_and_left, List.set_cons_zero, List.set_cons_succ, V.int.injEq, V.bl.injEq, V.str.injEq, V.ref.injEq, V.ty.injEq, List.cons.injEq, and_true, true_and, and_assoc, if_true, if_false, Bool.false_eq_true, reduceCtorEq, false_and, and_false, exists_false, false_or, or_false, Bool.not_true, Bool.not_false, decide_eq_true_eq, ite_true, ite_false, WE, cxOf_K, cxOf_mg, rSlS, scal, wipe, mem_low, mem_dig, mem_brk, mem_brk4, sgn_inj, Bool.decide_eq_true])

def spX : Sp := fun vs H Q _ => ∃ x, vs = [x] ∧ True
/-- the key that opens a term -/
def keyD : PyData → Option PyData
  | .tuple [.str w, _, b] => if w = "lock" then some b else if w = "shut" then (match b with | .tuple [_, k] => some k | _ => none) else none
  | _ => none
theorem parts_view {d : PyData} (h : (partsD d).isSome = true) : ∃ w a ds, d = .tuple (.str w :: a :: ds) := by
  cases e : partsD d with
  | none => rw [e] at h; cases h
  | some ps =>
    unfold partsD at e
    split at e
    · exact ⟨_, _, _, rfl⟩
    · cases e
/-- terms of two parts -/
theorem parts_two {w : Str} {a : PyData} {ds : List PyData} (hw : w ∈ twoParts) (h : (partsD (.tuple (.str w :: a :: ds))).isSome = true) : ∃ b, ds = [b] ∧ (w = "shut" → ∃ k, b = .tuple [.str "pub", k]) := by
  have c1 : (onePart.any fun u => decide (u = w)) = false := by
    rcases List.mem_cons.mp hw with rfl | hw
    · decide +kernel
    rcases List.mem_cons.mp hw with rfl | hw
    · decide +kernel
    rcases List.mem_cons.mp hw with rfl | hw
    · decide +kernel
    · rw [List.mem_singleton.mp hw]; decide +kernel
  have c2 : (twoParts.any fun u => decide (u = w)) = true := List.any_eq_true.mpr ⟨w, hw, by simp⟩
  match ds, h with
  | [], h => simp [partsD, c1, c2] at h
  | [b], h =>
    refine ⟨b, rfl, fun e => ?_⟩
    simp only [partsD, c1, c2, Bool.false_eq_true, if_false, if_true] at h
    cases hs : shutOk b with
    | false => rw [hs] at h; simp [e] at h
    | true =>
      unfold shutOk at hs
      split at hs
      · rename_i p k
        have : p = "pub" := by simpa using hs
        rw [this]
        exact ⟨k, rfl⟩
      · cases hs
  | _ :: _ :: _, h => simp [partsD, c1, c2] at h
def spKey (K : PySem.W.Frag) : Sp := fun vs H Q _ => ∃ x d, vs = [x] ∧ Dp K H x d ∧ (partsD d).isSome = true ∧ d.canLay0 = true ∧ (match keyD d with
  | some k => ∀ v, Dp K H v k → Q v H
  | none => Q .non H)
section
variable {P : Program} {w : World} {K : PySem.W.Frag} {mg : Str → Option Value} {base : Heap}
theorem o_key_for (W : Wd fa fn K mg) : OkF P w K mg base d_key_for 1 ["term"] (spKey K) := by
  refine okf W (d := d_key_for) 8 sc_key_for rfl rfl (fun _ _ _ _ _ _ us hl => match us, hl with | [_], _ => rfl) ?len (fun cdv A outer s H vs Q E hr nd hu tk po h => ?body)
  case len =>
    rintro vs H Q E ⟨_, _, rfl, _⟩
    rfl
  case body =>
    refine ⟨_, (pss_cons (ps_if (pt_cmpR (op_eqW hr.units) (pe_ix ix_seq (pv 0) pe_int (fun _ _ => rfl)) pe_str (nomark _)) (pss_one (ps_ret (pe_ix ix_seq (pv 0) pe_int (fun _ _ => rfl)))) pss_nil)
    (pss_one (ps_ret (pe_ifExp (pt_cmpR (op_eqW hr.units) (pe_ix ix_seq (pv 0) pe_int (fun _ _ => rfl)) pe_str (nomark _)) (pe_ix ix_seq (pe_ix ix_seq (pv 0) pe_int (fun _ _ => rfl)) pe_int (fun _ _ => rfl)) pe_non)))), ?_⟩
    obtain ⟨x, d, rfl, hd, hp, hlay, hq⟩ := h
    clear tk po
    obtain ⟨u, a, ds, rfl⟩ := parts_view hp
    walk_at "x"
    cases hd with
    | @tup p vs0 ds0 h1 h2 =>
      cases h2 with
      | @cons v0 vs1 d0 ds1 k0 k1 =>
        cases k0
        cases k1 with
        | @cons va vs d1 ds2 ka kv =>
          have hok : (PyData.str u).canLay0 = true := by
            simp only [PyData.canLay0, PyData.canLayAll0, Bool.and_eq_true] at hlay ⊢
            exact hlay.1
          have i0 : atI (V.str u :: va :: vs) 0 = some (.str u) := atI_nat (j := 0) rfl
          refine .inr (.inl ⟨p, _, 0, _, rfl, rfl, h1, i0, .str u, .str (Str.ofString "lock"), .str _, .str _, hok, by decide +kernel, by simp [PyData.depth], _, rfl, ?_⟩)
          rw [eqv_ss]
          by_cases c1 : u = Str.ofString "lock"
          · obtain ⟨b, rfl, _⟩ := parts_two (by rw [c1]; decide +kernel) hp
            rw [decide_eq_true c1]
            cases kv with
            | @cons vb vs2 _ _ kb kv2 =>
              cases kv2
              have e : keyD (.tuple [.str u, a, b]) = some b := by
                simp only [keyD]
                rw [if_pos (show u = "lock" from c1)]
              rw [e] at hq
              exact iteT (.inr (.inl ⟨p, _, 2, vb, rfl, rfl, h1, rfl, hq vb kb⟩))
          · rw [decide_eq_false c1]
            refine iteF (.inr (.inl ⟨p, _, 0, _, rfl, rfl, h1, i0, .str u, .str (Str.ofString "shut"), .str _, .str _, hok, by decide +kernel, by simp [PyData.depth], _, rfl, ?_⟩))
            rw [eqv_ss]
            by_cases c2 : u = Str.ofString "shut"
            · obtain ⟨b, rfl, hb⟩ := parts_two (by rw [c2]; decide +kernel) hp
              obtain ⟨k, rfl⟩ := hb c2
              rw [decide_eq_true c2]
              cases kv with
              | @cons vb vs2 _ _ kb kv2 =>
                cases kv2
                have e : keyD (.tuple [.str u, a, .tuple [.str "pub", k]]) = some k := by
                  simp only [keyD]
                  rw [if_neg (show ¬ u = "lock" from c1), if_pos (show u = "shut" from c2)]
                rw [e] at hq
                cases kb with
                | @tup pb ws es m1 m2 =>
                  cases m2 with
                  | @cons w0 ws1 _ _ n0 m3 =>
                    cases m3 with
                    | @cons w1 ws2 _ _ n1 m4 =>
                      cases m4
                      exact iteT (.inr (.inl ⟨p, _, 2, V.ref pb, rfl, rfl, h1, rfl, .inr (.inl ⟨pb, _, 1, w1, rfl, rfl, m1, rfl, hq w1 n1⟩)⟩))
            · rw [decide_eq_false c2]
              have e : keyD (.tuple (.str u :: a :: ds)) = none := by
                match ds with
                | [] => rfl
                | [b] =>
                  simp only [keyD]
                  rw [if_neg (show ¬ u = "lock" from c1), if_neg (show ¬ u = "shut" from c2)]
                | _ :: _ :: _ => rfl
              rw [e] at hq
              exact iteF hq
theorem o__law_opens (W : Wd fa fn K mg) : OkF P w K mg base d__law_opens 1 ["term"] (spKey K) := by
  refine okf W (d := d__law_opens) 34 sc__law_opens rfl rfl (fun _ _ _ _ _ _ us hl => match us, hl with | [_], _ => rfl) ?len (fun cdv A outer s H vs Q E hr nd hu tk po h => ?body)
  case len =>
    rintro vs H Q E ⟨_, _, rfl, _⟩
    rfl
  case body =>
    refine ⟨_, (pss_one (ps_ret (pe_ifExp (pt_cmpR (op_eqW hr.units) (pe_ix ix_seq (pv 0) pe_int (fun _ _ => rfl)) pe_str (nomark _)) (pe_ix ix_seq (pv 0) pe_int (fun _ _ => rfl)) (pe_ifExp (pt_cmpR (op_eqW hr.units) (pe_ix ix_seq (pv 0) pe_int (fun _ _ => rfl)) pe_str (nomark _)) (pe_ix ix_seq (pe_ix ix_seq (pv 0) pe_int (fun _ _ => rfl)) pe_int (fun _ _ => rfl)) pe_non)))), ?_⟩
    obtain ⟨x, d, rfl, hd, hp, hlay, hq⟩ := h
    clear tk po
    obtain ⟨u, a, ds, rfl⟩ := parts_view hp
    walk_at "x"
    cases hd with
    | @tup p vs0 ds0 h1 h2 =>
      cases h2 with
      | @cons v0 vs1 d0 ds1 k0 k1 =>
        cases k0
        cases k1 with
        | @cons va vs d1 ds2 ka kv =>
          have hok : (PyData.str u).canLay0 = true := by
            simp only [PyData.canLay0, PyData.canLayAll0, Bool.and_eq_true] at hlay ⊢
            exact hlay.1
          have i0 : atI (V.str u :: va :: vs) 0 = some (.str u) := atI_nat (j := 0) rfl
          refine .inr (.inl ⟨p, _, 0, _, rfl, rfl, h1, i0, .str u, .str (Str.ofString "lock"), .str _, .str _, hok, by decide +kernel, by simp [PyData.depth], _, rfl, ?_⟩)
          rw [eqv_ss]
          by_cases c1 : u = Str.ofString "lock"
          · obtain ⟨b, rfl, _⟩ := parts_two (by rw [c1]; decide +kernel) hp
            rw [decide_eq_true c1]
            cases kv with
            | @cons vb vs2 _ _ kb kv2 =>
              cases kv2
              have e : keyD (.tuple [.str u, a, b]) = some b := by
                simp only [keyD]
                rw [if_pos (show u = "lock" from c1)]
              rw [e] at hq
              exact iteT (.inr (.inl ⟨p, _, 2, vb, rfl, rfl, h1, rfl, hq vb kb⟩))
          · rw [decide_eq_false c1]
            refine iteF (.inr (.inl ⟨p, _, 0, _, rfl, rfl, h1, i0, .str u, .str (Str.ofString "shut"), .str _, .str _, hok, by decide +kernel, by simp [PyData.depth], _, rfl, ?_⟩))
            rw [eqv_ss]
            by_cases c2 : u = Str.ofString "shut"
            · obtain ⟨b, rfl, hb⟩ := parts_two (by rw [c2]; decide +kernel) hp
              obtain ⟨k, rfl⟩ := hb c2
              rw [decide_eq_true c2]
              cases kv with
              | @cons vb vs2 _ _ kb kv2 =>
                cases kv2
                have e : keyD (.tuple [.str u, a, .tuple [.str "pub", k]]) = some k := by
                  simp only [keyD]
                  rw [if_neg (show ¬ u = "lock" from c1), if_pos (show u = "shut" from c2)]
                rw [e] at hq
                cases kb with
                | @tup pb ws es m1 m2 =>
                  cases m2 with
                  | @cons w0 ws1 _ _ n0 m3 =>
                    cases m3 with
                    | @cons w1 ws2 _ _ n1 m4 =>
                      cases m4
                      exact iteT (.inr (.inl ⟨p, _, 2, V.ref pb, rfl, rfl, h1, rfl, .inr (.inl ⟨pb, _, 1, w1, rfl, rfl, m1, rfl, hq w1 n1⟩)⟩))
            · rw [decide_eq_false c2]
              have e : keyD (.tuple (.str u :: a :: ds)) = none := by
                match ds with
                | [] => rfl
                | [b] =>
                  simp only [keyD]
                  rw [if_neg (show ¬ u = "lock" from c1), if_neg (show ¬ u = "shut" from c2)]
                | _ :: _ :: _ => rfl
              rw [e] at hq
              exact iteF hq
end
end WW

set_option maxHeartbeats 4000000
namespace WW
open PySem PySem.Spec PyProof.Rows L2
local macro_rules | `(tactic| walk_at "x") => `(tactic| simp only [tSeq, tNext, tAsg, gName, tRet, tRetN, tIfS, tOp, tUn, rI, rI0, rU, tTest, tB, tAnd, tOr, tNot, tAndV, tOrV, tNotV, tIf, tCons, tNil, tTup, tLst, tCall, tCallS, tMeth, tMake, tFld, sFld, tBM, tBM0, tCB, tSl, tPart, tNoPart, tDrop, tPar, tPar3, tAug, ipI, gTup, gCons, gNil, gSub, rSetL, rAppend, rPop, rIxL, rIxS, rIxT, rEq, rNe, tChain, tNever, tThen, tVar, tC, L2.start, List.map_cons, List.map_nil, List.length_cons, List.length_nil, List.replicate_succ, List.replicate_zero, List.append_nil, List.nil_append, List.cons_append, Nat.reduceAdd, Nat.reduceSub, Nat.add_zero, Nat.zero_add, Nat.sub_zero, Nat.sub_self,
  List.getElem?_cons_zero, List.getElem?_cons_succ, Option.some.injEq, exists_eq_left', exists_eq_left, exists_eq', exists_eq, exists_and_left, List.set_cons_zero, List.set_cons_succ, V.int.injEq, V.bl.injEq, V.str.injEq, V.ref.injEq, V.ty.injEq, List.cons.injEq, and_true, true_and, and_assoc, if_true, if_false, Bool.false_eq_true, reduceCtorEq, false_and, and_false, exists_false, false_or, or_false, Bool.not_true, Bool.not_false, decide_eq_true_eq, ite_true, ite_false, WE, cxOf_K, cxOf_mg, rSlS, scal, wipe, mem_low, mem_dig, mem_brk, mem_brk4, sgn_inj, Bool.decide_eq_true])

mutual
def szD : PyData → Nat
  | .tuple ds => 2 + szDs ds
  | _ => 1
def szDs : List PyData → Nat
  | [] => 0
  | d :: ds => szD d + 1 + szDs ds
end
theorem szD_pos (d : PyData) : 1 ≤ szD d := by cases d <;> simp only [szD] <;> omega
/-- a term, with all that the walk asks -/
inductive Tm : PyData → Prop
  | mk {d : PyData} {ps : List PyData} : partsD d = some ps → flatT 40 d = true → (wS d).length ≤ 20000 → imm d = true → okS d = true → d.canLay0 = true → (∀ p ∈ ps, Tm p) → Tm d
theorem parts_sz {d : PyData} {ps : List PyData} (h : partsD d = some ps) : szDs ps + 1 ≤ szD d := by
  unfold partsD at h
  split at h
  · rename_i w a ds
    split at h
    · split at h
      · cases h; simp only [szD, szDs]; omega
      · cases h
    · split at h
      · split at h
        · split at h
          · cases h
          · cases h; simp only [szD, szDs]; omega
        · cases h
      · split at h
        · cases h; simp only [szD, szDs]; omega
        · cases h
  · cases h
/-- subterms_of: the waiting terms, the found ones -/
def subsL : Nat → List PyData → List PyData → List PyData
  | 0, _, found => found
  | _ + 1, [], found => found
  | f + 1, t :: l, found => if found.any (fun u => decide (wS u = wS t)) then subsL f l found else subsL f ((partsD t).getD [] ++ l) (found ++ [t])
def subsD (ds : List PyData) : List PyData := subsL (szDs ds + 1) ds []
def spSubs (K : PySem.W.Frag) : Sp := fun vs H Q _ => ∃ a xs ds, vs = [.ref a] ∧ (SqL K H a xs ∨ SqT K H a xs) ∧ DpAll K H xs ds ∧ (∀ d ∈ ds, Tm d) ∧ szDs ds ≤ 100000 ∧
  ∀ D us H', Same H H' → H D = none → H' D = some (.lst us) → DpAll K H' us (subsD ds) → Q (.ref D) H'
theorem szDs_app (a b : List PyData) : szDs (a ++ b) = szDs a + szDs b := by
  induction a with
  | nil => simp [szDs]
  | cons x a ih => simp only [List.cons_append, szDs, ih]; omega
theorem szDs_len (a : List PyData) : a.length ≤ szDs a := by
  induction a with
  | nil => simp
  | cons x a ih => simp only [List.length_cons, szDs]; omega
theorem Tm.parts {d : PyData} (h : Tm d) : ∃ ps, partsD d = some ps ∧ ∀ p ∈ ps, Tm p := by
  cases h with
  | mk a _ _ _ _ _ b => exact ⟨_, a, b⟩
theorem Tm.imm {d : PyData} (h : Tm d) : WW.imm d = true := by cases h; assumption
theorem Tm.flat {d : PyData} (h : Tm d) : flatT 40 d = true := by cases h; assumption
theorem Tm.len {d : PyData} (h : Tm d) : (wS d).length ≤ 20000 := by cases h; assumption
theorem Tm.ok {d : PyData} (h : Tm d) : okS d = true := by cases h; assumption
theorem Tm.lay {d : PyData} (h : Tm d) : d.canLay0 = true := by cases h; assumption
theorem immAll_of {ds : List PyData} (h : ∀ d ∈ ds, Tm d) : WW.imm.immAll ds = true := by
  induction ds with
  | nil => rfl
  | cons c ds ih =>
    simp only [WW.imm.immAll, Bool.and_eq_true]
    exact ⟨(h c (List.mem_cons_self ..)).imm, ih fun d hd => h d (List.mem_cons_of_mem _ hd)⟩
/-- a dict of texts -/
def keysOf (f : List PyData) (v : PyData → V) : List (Key × V) := f.map fun u => (Sum.inr (S (wS u)), v u)
theorem val_none {f : List PyData} {v : PyData → V} {t : PyData} : (valV (keysOf f v) (Sum.inr (S (wS t)))).isSome = f.any fun u => decide (wS u = wS t) := by
  induction f with
  | nil => rfl
  | cons u f ih =>
    by_cases e : wS u = wS t
    · rw [show keysOf (u :: f) v = (Sum.inr (S (wS u)), v u) :: keysOf f v from rfl, valV_pos (by rw [e])]
      simp [e]
    · rw [show keysOf (u :: f) v = (Sum.inr (S (wS u)), v u) :: keysOf f v from rfl]
      have : valV ((Sum.inr (S (wS u)), v u) :: keysOf f v) (Sum.inr (S (wS t))) = valV (keysOf f v) (Sum.inr (S (wS t))) := by
        unfold valV
        rw [List.find?_cons_of_neg]
        simp only [decide_eq_true_eq]
        intro h
        injection h with h
        exact e (S_inj.mp h)
      rw [this, ih]
      simp [e]
structure SS (K : PySem.W.Frag) (H H1 : Hp) (Wa Fa Sa : Addr) (us : List V) (l : List PyData) (fv : List V) (found : List PyData) : Prop where
  w : H1 Wa = some (.lst us.reverse)
  wd : DpAll K H1 us l
  f : H1 Fa = some (.lst fv)
  fd : DpAll K H1 fv found
  s : H1 Sa = some (.dK (keysOf found fun _ => .bl true))
  sm : Same H H1
  bw : H Wa = none
  bf : H Fa = none
  bs : H Sa = none
  wf : Wa ≠ Fa
  ws : Wa ≠ Sa
  fs : Fa ≠ Sa
  tl : ∀ d ∈ l, Tm d
  tf : ∀ d ∈ found, Tm d
theorem noTup_d {kvs : List (Key × V)} : noTup (.dK kvs) := trivial
theorem Dpx {K : PySem.W.Frag} {H H' : Hp} {us : List V} {l : List PyData} (t : Tx H H') (h : ∀ d ∈ l, Tm d) (g : DpAll K H us l) : DpAll K H' us l := Dp.txs t l us (immAll_of h) g
section
variable {K : PySem.W.Frag} {H H1 H2 : Hp} {Wa Fa Sa : Addr} {us fv : List V} {l found : List PyData}
theorem SS.same (g : SS K H H1 Wa Fa Sa us l fv found) (t : Same H1 H2) : SS K H H2 Wa Fa Sa us l fv found :=
  ⟨t _ _ g.w, Dp.sms t _ _ g.wd, t _ _ g.f, Dp.sms t _ _ g.fd, t _ _ g.s, Same.trans g.sm t, g.bw, g.bf, g.bs, g.wf, g.ws, g.fs, g.tl, g.tf⟩
theorem SS.setW (g : SS K H H1 Wa Fa Sa us l fv found) {us' : List V} {l' : List PyData} (hd : DpAll K H1 us' l') (ht : ∀ d ∈ l', Tm d) : SS K H (upd H1 Wa (.lst us'.reverse)) Wa Fa Sa us' l' fv found := by
  have t : Tx H1 (upd H1 Wa (.lst us'.reverse)) := Tx.up g.w noTup_l
  exact ⟨upd_same, Dpx t ht hd, by rw [upd_ne g.wf.symm]; exact g.f, Dpx t g.tf g.fd, by rw [upd_ne g.ws.symm]; exact g.s, Same.mut g.sm g.bw, g.bw, g.bf, g.bs, g.wf, g.ws, g.fs, ht, g.tf⟩
theorem SS.add (g : SS K H H1 Wa Fa Sa us l fv found) {v : V} {d : PyData} (hd : Dp K H1 v d) (ht : Tm d) :
    SS K H (upd (upd H1 Sa (.dK (keysOf (found ++ [d]) fun _ => .bl true))) Fa (.lst (fv ++ [v]))) Wa Fa Sa us l (fv ++ [v]) (found ++ [d]) := by
  have t1 : Tx H1 (upd H1 Sa (.dK (keysOf (found ++ [d]) fun _ => .bl true))) := Tx.up g.s noTup_d
  have t2 : Tx (upd H1 Sa (.dK (keysOf (found ++ [d]) fun _ => .bl true))) (upd (upd H1 Sa (.dK (keysOf (found ++ [d]) fun _ => .bl true))) Fa (.lst (fv ++ [v]))) := Tx.up (by rw [upd_ne g.fs]; exact g.f) noTup_l
  have t := t1.trans t2
  have tf : ∀ e ∈ found ++ [d], Tm e := fun e he => by
    rcases List.mem_append.mp he with he | he
    · exact g.tf e he
    · rw [List.mem_singleton.mp he]; exact ht
  exact ⟨by rw [upd_ne g.wf, upd_ne g.ws]; exact g.w, Dpx t g.tl g.wd, upd_same, Dpx t tf (DpAll.app g.fd (.cons hd .nil)), by rw [upd_ne g.fs.symm, upd_same], Same.mut (Same.mut g.sm g.bs) g.bf, g.bw, g.bf, g.bs, g.wf, g.ws, g.fs, g.tl, tf⟩
end
def sInv (K : PySem.W.Frag) (x : V) (H : Hp) (Wa Fa Sa : Addr) (res : List PyData) (m : Nat) (σ : L2.St) (H1 : Hp) : Prop := ∃ us l fv found y4 y5, σ = [some x, some (.ref Wa), some (.ref Fa), some (.ref Sa), y4, y5] ∧ SS K H H1 Wa Fa Sa us l fv found ∧ m = szDs l ∧ found.length + m ≤ 100000 ∧ ∃ f, m < f ∧ res = subsL f l found
theorem keys_snoc (found : List PyData) (d : PyData) (v : PyData → V) : keysOf (found ++ [d]) v = keysOf found v ++ [(Sum.inr (S (wS d)), v d)] := by simp [keysOf]
section
variable {P : Program} {w : World} {K : PySem.W.Frag} {mg : Str → Option Value} {base : Heap}
theorem o_subterms_of (W : Wd fa fn K mg) : OkF P w K mg base d_subterms_of 60 ["terms"] (spSubs K) := by
  have o_parts_of := (o_parts_of (P := P) (w := w) (base := base) W).mono (show 3 ≤ 59 by decide)
  have o_shown := (o_shown (P := P) (w := w) (base := base) W 40).mono (show 40 + 1 ≤ 59 by decide)
  obtain ⟨fd_shown, F_shown, b_shown, k_shown⟩ := o_shown.ex; obtain ⟨fd_parts_of, F_parts_of, b_parts_of, k_parts_of⟩ := o_parts_of.ex
  refine okf W (d := d_subterms_of) 5 sc_subterms_of rfl rfl (fun _ _ _ _ _ _ us hl => match us, hl with | [_], _ => rfl) ?len (fun cdv A outer s H vs Q E hr nd hu tk po h => ?body)
  case len =>
    rintro vs H Q E ⟨_, _, _, rfl, _⟩
    rfl
  case body =>
    refine ⟨_, (pss_cons (ps_par3 (i := 1) (j := 2) (l := 3) (by rfl) nd rfl rfl rfl (by decide) (by decide) (by decide) rfl rfl rfl (pa_cons (pe_revL (pe_callTy call_list_of (by rfl) (W.free 21) (by decide +kernel) (pa_cons (pv 0) pa_nil))) (pa_cons (pe_lst pa_nil) (pa_cons pe_dnewK pa_nil))) (by rfl))
    (pss_cons (ps_while po (pt_cmpR op_gt (pe_callB call_len (by rfl) (W.free 7) (by decide +kernel) (pa_cons (pv 1) pa_nil)) pe_int (nomark _))
      (pss_cons (ps_set (i := 4) nd rfl (by first | exact Or.inl rfl | exact Or.inr rfl) (pe_bm0 PySem.F.plainAttrs_list PySem.F.slot_list_pop PySem.F.type_list_pop mt_pop (pv 1)))
    (pss_cons (ps_set (i := 5) nd rfl (by first | exact Or.inl rfl | exact Or.inr rfl) (by exact (pe_callS F_shown (hr.mono (by first | decide | omega)) rfl (W.glo 22) k_shown b_shown (fun σ => passAt tk σ) (by exact (pa_cons (pv 4) pa_nil)))))
    (pss_one (ps_if (pt_cmp (pc_dnotin hu (pv 5) (pv 3)) rfl) (pss_cons (ps_dput hu (pv 3) (pv 5) pe_bl rfl)
    (pss_cons (ps_expr (pe_bm PySem.F.plainAttrs_list PySem.F.slot_list_append PySem.F.type_list_append mt_append (pv 2) (pa_cons (pv 4) pa_nil)))
    (pss_one (ps_expr (pe_bm PySem.F.plainAttrs_list PySem.F.slot_list_extend PySem.F.type_list_extend mt_extend (pv 1) (pa_cons (pe_revL (by exact (pe_callS F_parts_of (hr.mono (by first | decide | omega)) rfl (W.glo 18) k_parts_of b_parts_of (fun σ => passAt tk σ) (by exact (pa_cons (pv 4) pa_nil))))) pa_nil)))))) pss_nil)))))
    (pss_one (ps_ret (pv 2))))), ?_⟩
    obtain ⟨a, xs, ds, rfl, hsq, hdp, htm, hsz, hq⟩ := h
    clear tk po
    have szl := sizeLine_eq
    simp only [tSeq, tNext, tAsg, gName, tRet, tRetN, tIfS, tOp, tUn, rI, rI0, rU, tTest, tB, tAnd, tOr, tNot, tAndV, tOrV, tNotV, tIf, tCons, tNil, tTup, tLst, tCall, tCallS, tMeth, tMake, tFld, sFld, tBM, tBM0, tCB, tSl, tPart, tNoPart, tDrop, tPar, tPar3, tAug, ipI, gTup, gCons, gNil, gSub, rSetL, rAppend, rPop, rIxL, rIxS, rIxT, rEq, rNe, tChain, tNever, tThen, tVar, tC, L2.start, List.map_cons, List.map_nil, List.length_cons, List.length_nil, List.replicate_succ, List.replicate_zero, List.append_nil, List.nil_append, List.cons_append, Nat.reduceAdd, Nat.reduceSub, Nat.add_zero, Nat.zero_add, Nat.sub_zero, Nat.sub_self,
  List.getElem?_cons_zero, List.getElem?_cons_succ, Option.some.injEq, exists_eq_left', exists_eq_left, exists_eq', exists_eq, exists_and_left, List.set_cons_zero, List.set_cons_succ, V.int.injEq, V.bl.injEq, V.str.injEq, V.ref.injEq, V.ty.injEq, List.cons.injEq, and_true, true_and, and_assoc, if_true, if_false, Bool.false_eq_true, reduceCtorEq, false_and, and_false, exists_false, false_or, or_false, Bool.not_true, Bool.not_false, decide_eq_true_eq, ite_true, ite_false, WE, cxOf_K, cxOf_mg, rSlS, scal, wipe, mem_low, mem_dig, mem_brk, mem_brk4, sgn_inj, Bool.decide_eq_true, HO.ins.injEq, HO.lst.injEq, HO.tup.injEq, upd_same, ne_eq, not_false_eq_true, tRevL, tDNewK]
    refine ⟨xs, hsq, fun L0 hL0 => ⟨xs, SqL.of upd_same, fun Wa hWa => ⟨by decide, fun Fa hFa => fun Sa hSa => ?_⟩⟩⟩
    have n1 : Fa ≠ Wa := fun e => by rw [e, upd_same] at hFa; cases hFa
    have n2 : Sa ≠ Fa := fun e => by rw [e, upd_same] at hSa; cases hSa
    rw [upd_ne n2] at hSa
    have n3 : Sa ≠ Wa := fun e => by rw [e, upd_same] at hSa; cases hSa
    rw [upd_ne n3] at hSa
    rw [upd_ne n1] at hFa
    have s1 := Same.new (o := HO.lst xs) hL0
    have bW := Same.none s1 hWa
    have bF := Same.none s1 hFa
    have bS := Same.none s1 hSa
    have s2 := Same.trans s1 (Same.new (o := HO.lst xs.reverse) hWa)
    have s3 := Same.mut (o := HO.lst []) s2 bF
    have s4 := Same.mut (o := HO.dK []) s3 bS
    have g0 : SS K H (upd (upd (upd (upd H L0 (HO.lst xs)) Wa (HO.lst xs.reverse)) Fa (HO.lst [])) Sa (HO.dK [])) Wa Fa Sa xs ds [] [] :=
      ⟨by rw [upd_ne n3.symm, upd_ne n1.symm, upd_same], Dp.sms s4 _ _ hdp, by rw [upd_ne n2.symm, upd_same], .nil, by rw [upd_same]; rfl, s4, bW, bF, bS, n1.symm, n3.symm, n2.symm, htm, (fun _ h => nomatch h)⟩
    unfold tWhile
    refine ⟨sInv K (V.ref a) H Wa Fa Sa (subsD ds), ⟨_, xs, ds, [], [], none, none, rfl, g0, rfl, by simpa using hsz, szDs ds + 1, Nat.lt_succ_self _, rfl⟩, ?_⟩
    rintro m σ H1 ⟨us, l, fv, found, y4, y5, rfl, g, rfl, hm, f, hf, hres⟩
    have hul := DpAll.length g.wd
    have hfl := DpAll.length g.fd
    walk_at "x"
    refine ⟨us.length, .inl ⟨_, SqL.of g.w, by simp⟩, ?_⟩
    obtain ⟨f, rfl⟩ : ∃ f', f = f' + 1 := ⟨f - 1, by omega⟩
    cases l with
    | nil =>
      rw [if_neg (by rw [hul]; decide)]
      have e : subsD ds = found := hres
      exact hq Fa fv H1 g.sm g.bf g.f (by rw [e]; exact g.fd)
    | cons t l =>
      obtain ⟨v, us', rfl⟩ : ∃ v us', us = v :: us' := by
        cases us with
        | nil => simp at hul
        | cons v us' => exact ⟨v, us', rfl⟩
      rw [if_pos (by rw [List.length_cons]; omega)]
      obtain ⟨hv, hus⟩ : Dp K H1 v t ∧ DpAll K H1 us' l := by
        cases g.wd with
        | cons h1 h2 => exact ⟨h1, h2⟩
      have tt := g.tl t (List.mem_cons_self ..)
      have tl' : ∀ d ∈ l, Tm d := fun d hd => g.tl d (List.mem_cons_of_mem _ hd)
      have hx : (v :: us').reverse = us'.reverse ++ [v] := by simp
      have hw' : H1 Wa = some (.lst (us'.reverse ++ [v])) := by rw [← hx]; exact g.w
      have ix : (us'.reverse ++ [v])[(us'.reverse ++ [v]).length - 1]? = some v := by simp
      have dl : (us'.reverse ++ [v]).dropLast = us'.reverse := List.dropLast_concat
      have g2 := g.setW hus tl'
      have hv2 : Dp K (upd H1 Wa (.lst us'.reverse)) v t := Dp.tx (Tx.up g.w noTup_l) t v tt.imm hv
      refine ⟨fun σ' H' => ∃ m', m' < szDs (t :: l) ∧ sInv K (V.ref a) H Wa Fa Sa (subsD ds) m' σ' H', fun σ' H' h => h, tyLst g.w, _, hw', v, ix, ?_⟩
      rw [dl]
      generalize hH2 : upd H1 Wa (.lst us'.reverse) = H2 at g2 hv2
      refine ⟨v, t, rfl, hv2, tt.flat, by have := tt.len; omega, fun H3 s3 => ?_⟩
      have g3 := g2.same s3
      have hv3 := Dp.sm s3 t v hv2
      have hr : subsL (f + 1) (t :: l) found = if found.any (fun u => decide (wS u = wS t)) then subsL f l found else subsL f ((partsD t).getD [] ++ l) (found ++ [t]) := rfl
      rw [hr] at hres
      have hpos := szD_pos t
      simp only [szDs] at hm hf
      simp only [tDNotIn, tVar, List.set_cons_zero, List.set_cons_succ, List.getElem?_cons_zero, List.getElem?_cons_succ]
      refine ⟨_, rfl, _, rfl, Sa, _, rfl, DGet.k g3.s (k := Sum.inr (S (wS t))), _, rfl, ?_⟩
      rw [val_none]
      cases hany : found.any fun u => decide (wS u = wS t) with
      | true =>
        rw [hany, if_pos rfl] at hres
        refine iteF ⟨szDs l, by simp only [szDs]; omega, us', l, fv, found, _, _, rfl, g3, rfl, by omega, f, by omega, hres⟩
      | false =>
        rw [hany, if_neg (by decide)] at hres
        refine iteT ?_
        obtain ⟨ps, hps, htps⟩ := tt.parts
        rw [hps] at hres
        have hsz2 := parts_sz hps
        obtain ⟨_, _, hps2, _⟩ := parts_sub hps
        have kn : valV (keysOf found fun _ => V.bl true) (Sum.inr (S (wS t))) = none := by
          have := val_none (f := found) (v := fun _ => V.bl true) (t := t)
          rw [hany] at this
          exact Option.isNone_iff_eq_none.mp (by simpa using this)
        have kl : (keysOf found fun _ => V.bl true).length < sizeLine := by
          unfold keysOf
          rw [List.length_map]
          omega
        have kp : putK (keysOf found fun _ => V.bl true) (Sum.inr (S (wS t))) (V.bl true) = keysOf (found ++ [t]) fun _ => V.bl true := by
          rw [putK_new _ kn, keys_snoc]
        have g4 := g3.add hv3 tt
        rw [← kp] at g4
        simp only [tSeq, tNext, tAsg, gName, tRet, tRetN, tIfS, tOp, tUn, rI, rI0, rU, tTest, tB, tAnd, tOr, tNot, tAndV, tOrV, tNotV, tIf, tCons, tNil, tTup, tLst, tCall, tCallS, tMeth, tMake, tFld, sFld, tBM, tBM0, tCB, tSl, tPart, tNoPart, tDrop, tPar, tPar3, tAug, ipI, gTup, gCons, gNil, gSub, rSetL, rAppend, rPop, rIxL, rIxS, rIxT, rEq, rNe, tChain, tNever, tThen, tVar, tC, L2.start, List.map_cons, List.map_nil, List.length_cons, List.length_nil, List.replicate_succ, List.replicate_zero, List.append_nil, List.nil_append, List.cons_append, Nat.reduceAdd, Nat.reduceSub, Nat.add_zero, Nat.zero_add, Nat.sub_zero, Nat.sub_self,
  List.getElem?_cons_zero, List.getElem?_cons_succ, Option.some.injEq, exists_eq_left', exists_eq_left, exists_eq', exists_eq, exists_and_left, List.set_cons_zero, List.set_cons_succ, V.int.injEq, V.bl.injEq, V.str.injEq, V.ref.injEq, V.ty.injEq, List.cons.injEq, and_true, true_and, and_assoc, if_true, if_false, Bool.false_eq_true, reduceCtorEq, false_and, and_false, exists_false, false_or, or_false, Bool.not_true, Bool.not_false, decide_eq_true_eq, ite_true, ite_false, WE, cxOf_K, cxOf_mg, rSlS, scal, wipe, mem_low, mem_dig, mem_brk, mem_brk4, sgn_inj, Bool.decide_eq_true, HO.ins.injEq, HO.lst.injEq, HO.tup.injEq, upd_same, ne_eq, not_false_eq_true, sDPut, tRevL]
        refine ⟨_, DPut.k g3.s (k := Sum.inr (S (wS t))) kl, tyLst (by rw [upd_ne g3.fs]; exact g3.f), _, by rw [upd_ne g3.fs]; exact g3.f, by omega, tyLst g4.w, ?_⟩
        have t4 : Tx H3 (upd (upd H3 Sa (HO.dK (putK (keysOf found fun _ => V.bl true) (Sum.inr (S (wS t))) (V.bl true)))) Fa (HO.lst (fv ++ [v]))) := (Tx.up g3.s noTup_d).trans (Tx.up (by rw [upd_ne g3.fs]; exact g3.f) noTup_l)
        refine ⟨v, t, rfl, Dp.tx t4 t v tt.imm hv3, tt.ok, tt.lay, ?_⟩
        rw [hps]
        intro D xs5 H5 s5 hD hD5 hx5
        have g5 := g4.same s5
        refine ⟨D, rfl, xs5, SqL.of hD5, fun D2 hD2 => ?_⟩
        have s6 := Same.new (o := HO.lst xs5.reverse) hD2
        have g6 := g5.same s6
        have hxl := DpAll.length hx5
        have hul6 := DpAll.length g6.wd
        refine ⟨Wa, D2, _, _, rfl, rfl, g6.w, upd_same, ?_, ?_⟩
        · have := szDs_len l
          simp only [List.length_reverse]
          omega
        · have e2 : us'.reverse ++ xs5.reverse = (xs5 ++ us').reverse := by simp
          rw [e2]
          have g7 := g6.setW (us' := xs5 ++ us') (l' := ps ++ l) (DpAll.app (Dp.sms s6 _ _ hx5) g6.wd) (fun d hd => by
            rcases List.mem_append.mp hd with hd | hd
            · exact htps d hd
            · exact tl' d hd)
          refine ⟨szDs (ps ++ l), by rw [szDs_app]; simp only [szDs]; omega, xs5 ++ us', ps ++ l, fv ++ [v], found ++ [t], _, _, rfl, g7, rfl, by rw [szDs_app, List.length_append, List.length_singleton]; omega, f, by rw [szDs_app]; omega, hres⟩
end
end WW

set_option maxHeartbeats 4000000
namespace WW
open PySem PySem.Spec PyProof.Rows L2
/-- texts in their order -/
def sortT (ks : List Str) : List Str := ks.mergeSort fun a b => decide (a.cps.toList ≤ b.cps.toList)
theorem dle_str : PySem.W.dataLe false PyData.str = fun a b : Str => decide (a.cps.toList ≤ b.cps.toList) := PySem.W.dataLe_str (fun b : Str => b)
def IsS (v : Value) (b : Str) : Prop := ∃ t, v = .str b t
theorem each_strs : ∀ {vs : List Value} {ks : List Str}, StrsAre vs ks → PySem.W.EachIs IsS vs ks
  | _, _, .nil => .nil
  | _, _, .cons y t h => .cons ⟨t, rfl⟩ (each_strs h)
theorem each_reads {h : Heap} : ∀ {vs : List Value} {ks : List Str}, StrsAre vs ks → PySem.W.EachIs (fun v b => ∃ as, Reads h v (PyData.str b) as) vs ks
  | _, _, .nil => .nil
  | _, _, .cons y t g => .cons ⟨[], .str y t⟩ (each_reads g)
theorem strs_each : ∀ {vs : List Value} {ks : List Str}, PySem.W.EachIs IsS vs ks → StrsAre vs ks
  | _, _, .nil => .nil
  | _, _, .cons ⟨t, e⟩ h => by subst e; exact .cons _ t (strs_each h)
theorem strs_vals : ∀ {ks : List Str} {its : List Value}, Vals (ks.map V.str) its → StrsAre its ks
  | [], _, h => by cases h; exact .nil
  | k :: ks, _, h => by
    cases h with
    | cons r rs =>
      obtain ⟨t, rfl⟩ := r
      exact .cons k t (strs_vals rs)
theorem sortT_perm (ks : List Str) : (sortT ks).Perm ks := List.mergeSort_perm ks _
theorem alike_strs (ks : List Str) : PySem.W.AllAlike (ks.map PyData.str) := .of fun _ _ => rfl
theorem sortable_strs (ks : List Str) : PySem.W.Sortable (ks.map PyData.str) := .others fun b => ⟨fun e => PyData.noConfusion e, fun xs e => PyData.noConfusion e⟩
section
variable {X : Cx}
/-- sorted of a list of texts, any length -/
def rSortLX (K : PySem.W.Frag) : List V → Hp → VK → Prop := fun vs H Q => ∃ (a : Addr) (ks : List Str), vs = [V.ref a] ∧ SqL K H a (ks.map V.str) ∧ ks.length ≤ 1000000 ∧ ∀ p, H p = none → Q (.ref p) (upd H p (.lst ((sortT ks).map V.str)))
theorem call_sortedLX (hu : X.A.units + 64 < cLine) : CallR X (.builtin "sorted") (rSortLX X.K) := by
  intro pins s σ H xs us Q I r q
  obtain ⟨a, ks, rfl, hs, hl, q⟩ := q
  obtain ⟨its, rv, hL, _⟩ := I.list hs
  rw [Vals.ref1 r]
  have hS : StrsAre its ks := strs_vals rv
  have hz : ks.length ≤ sizeLine := by rw [sizeLine_eq]; omega
  refine PySem.W.sorted_data (enc := PyData.str) hL.isList (each_strs hS) (each_reads hS) (alike_strs ks) (sortable_strs ks) hz (fun b _ => by show _ + 2 + 0 < _; omega) fun out ho eo => ?_
  rw [dle_str] at eo
  obtain ⟨ep, hat⟩ := PyProof.Rows.sortedAll_at s.heap its (List.toArray out)
  have hlen : ((sortT ks).map V.str).length ≤ sizeLine := by
    rw [List.length_map, (sortT_perm ks).length_eq]
    exact hz
  refine ⟨.ref _, upd H (s.heap.objs.size + 1) (.lst ((sortT ks).map V.str)), I.laid (t' := s.toks) (fun _ _ => PyProof.Rows.sortedAll_old) (Nat.le_succ _) ⟨hlen, out, ep, vals_of_strs (strs_each eo), hat⟩, rfl, q _ (I.hok.fresh (Nat.le_succ _))⟩
/-- sorted of a dict of texts, any length -/
def rSortDX : List V → Hp → VK → Prop := fun vs H Q => ∃ (a : Addr) (kvs : List (Key × V)) (ks : List Str), vs = [V.ref a] ∧ H a = some (.dK kvs) ∧ kvs.map (·.1) = ks.map Sum.inr ∧ ks.length ≤ 1000000 ∧ ∀ p, H p = none → Q (.ref p) (upd H p (.lst ((sortT ks).map V.str)))
theorem call_sortedDX (hc : X.calm = true) (hu : X.A.units + 64 < cLine) : CallR X (.builtin "sorted") rSortDX := by
  intro pins s σ H xs us Q I r q
  obtain ⟨a, kvs, ks, rfl, ha, hk, hl, q⟩ := q
  rw [Vals.ref1 r]
  have hz : ks.length ≤ sizeLine := by rw [sizeLine_eq]; omega
  obtain ⟨z, lo, vs, rel, dd⟩ := dk_rd I.hok (.inl ha)
  obtain ⟨ep, hat⟩ := dd.dictAt
  have ek : vs.map (·.1) = ks.map Sum.inr := by rw [← hk]; exact rel.keys.symm
  have el : vs.length = ks.length := by
    have e := congrArg List.length ek
    simpa using e
  refine Calls.call_function_entry PyProof.Rows.kind_sorted PyProof.Rows.plain_sorted PyProof.Rows.entry_sorted (PyProof.Rows.args_sorted1 _) ?_
  unfold Builtin.«sorted»
  refine wpAny_bind (m := checkCount "sorted" 1 1 _) (wpAny_pure ?_)
  refine wpAny_bind (PySem.W.kdu_collect (A := X.A.in1) (PySem.W.kdl_dict (knd := mixKind X.prog X.w) (kvs := vs) (ep := ep) lo) (I.ok.hd hc) hat (by omega) fun h1 tk acc kp hacc => ?_)
  have ea : acc.toList.length = ks.length := by rw [Array.length_toList, hacc.1, el]
  have hS : StrsAre acc.toList ks := strs_at ea fun j v e => by
    obtain ⟨k, x, m1, m2⟩ := hacc.2 j v (by rw [← Array.getElem?_toList]; exact e)
    have m3 : (vs.map (·.1))[j]? = some k := by rw [List.getElem?_map, m1]; rfl
    rw [ek, List.getElem?_map] at m3
    obtain ⟨y, hy, rfl⟩ := Option.map_eq_some_iff.mp m3
    obtain ⟨t, ev⟩ := Value.isStrOf_shape (x := y) (v := v) m2
    exact ⟨y, t, hy, ev⟩
  have I1 : Inv X pins σ H { s with heap := h1, toks := tk } := I.kept kp
  refine wpAny_bind (wpAny_newList ?_ (by omega))
  generalize hB : h1.objs.size = B
  have hB2 : (h1.push (seqObj "list" acc.toList.toArray 0)).get? B = some (seqObj "list" acc.toList.toArray 0) := by
    rw [← hB]
    exact Heap.get?_push_size _ rfl
  have er : PySem.W.EachIs (fun v b => ∃ as, Reads (h1.push (seqObj "list" acc.toList.toArray 0)) v (PyData.str b) as ∧ B ∉ as) acc.toList ks := by
    have gen : ∀ {vs : List Value} {ks : List Str}, StrsAre vs ks → PySem.W.EachIs (fun v b => ∃ as, Reads (h1.push (seqObj "list" acc.toList.toArray 0)) v (PyData.str b) as ∧ B ∉ as) vs ks := by
      intro vs ks h
      induction h with
      | nil => exact .nil
      | cons y t _ ih => exact .cons ⟨[], .str y t, fun z => nomatch z⟩ ih
    exact gen hS
  show wpAny _ _ _ _ _ { s with heap := h1.push (seqObj "list" acc.toList.toArray 0), toks := tk }
  refine wpAny_bind (wpAny_holding (PySem.W.list_sort_data (enc := PyData.str) (s := { s with heap := h1.push (seqObj "list" acc.toList.toArray 0), toks := tk }) hB2 (each_strs hS) er (alike_strs ks) (sortable_strs ks) hz (fun b _ => ?_) fun out ho eo => ?_))
  · show X.A.units + 1 + 1 + 0 < cLine
    omega
  · rw [dle_str] at eo
    obtain ⟨e2, hat2⟩ := PyProof.Rows.sortedHeap_at (vs := acc.toList) (out := List.toArray out) hB2
    have hlen : ((sortT ks).map V.str).length ≤ sizeLine := by
      rw [List.length_map, (sortT_perm ks).length_eq]
      exact hz
    refine wpAny_pure ⟨_, rfl, .ref B, upd H B (.lst ((sortT ks).map V.str)), I1.laid (t' := tk) (fun b u e => ?_) (Nat.le_of_eq hB) ⟨hlen, out, e2, vals_of_strs (strs_each eo), hat2⟩, rfl, q B (I1.hok.fresh (Nat.le_of_eq hB))⟩
    have hb : b < h1.objs.size := Heap.lt_size e
    have hbB : b ≠ B := fun z => by rw [z, hB] at hb; exact absurd hb (Nat.lt_irrefl _)
    refine (PyProof.Rows.sortedHeap_old hbB ?_).trans (Heap.get?_push_of_some _ e)
    show b < (h1.push (seqObj "list" acc.toList.toArray 0)).objs.size
    rw [size_push']
    exact Nat.lt_succ_of_lt hb
end
end WW

set_option maxHeartbeats 4000000
namespace WW
open PySem PySem.Spec PyProof.Rows L2
/-- the terms of the law -/
inductive Te
  | s | k | n | own | x | c | m | k0 | k1 | k2 | k3
  | pair (a b : Te) | lock (a b : Te) | sea (a b : Te) | shut (a b : Te) | print (a : Te) | pub (a : Te)
noncomputable instance : DecidableEq Te := fun _ _ => Classical.propDecidable _
def Te.enc : Te → PyData
  | .s => .tuple [.str "name", .str "s"]
  | .k => .tuple [.str "name", .str "k"]
  | .n => .tuple [.str "new", .str "n", .int 0]
  | .own => .tuple [.str "own", .int 1]
  | .x => .tuple [.str "var", .str "x", .int 0]
  | .c => .tuple [.str "name", .str "c"]
  | .m => .tuple [.str "name", .str "m"]
  | .k0 => .tuple [.str "name", .str "k0"]
  | .k1 => .tuple [.str "name", .str "k1"]
  | .k2 => .tuple [.str "name", .str "k2"]
  | .k3 => .tuple [.str "name", .str "k3"]
  | .pair a b => .tuple [.str "pair", a.enc, b.enc]
  | .lock a b => .tuple [.str "lock", a.enc, b.enc]
  | .sea a b => .tuple [.str "seal", a.enc, b.enc]
  | .shut a b => .tuple [.str "shut", a.enc, .tuple [.str "pub", b.enc]]
  | .print a => .tuple [.str "print", a.enc]
  | .pub a => .tuple [.str "pub", a.enc]
def Te.parts : Te → List Te
  | .pair a b => [a, b]
  | .lock a b => [a, b]
  | .sea a b => [a, b]
  | .shut a b => [a, .pub b]
  | .print a => [a]
  | .pub a => [a]
  | _ => []
def Te.size : Te → Nat
  | .pair a b => 1 + a.size + b.size
  | .lock a b => 1 + a.size + b.size
  | .sea a b => 1 + a.size + b.size
  | .shut a b => 2 + a.size + b.size
  | .print a => 1 + a.size
  | .pub a => 1 + a.size
  | _ => 1
def Te.depth : Te → Nat
  | .pair a b => 1 + max a.depth b.depth
  | .lock a b => 1 + max a.depth b.depth
  | .sea a b => 1 + max a.depth b.depth
  | .shut a b => 1 + max a.depth (1 + b.depth)
  | .print a => 1 + a.depth
  | .pub a => 1 + a.depth
  | _ => 1
theorem partsD_enc (t : Te) : partsD t.enc = some (t.parts.map Te.enc) := by
  cases t <;> first | rfl | decide +kernel | skip
  all_goals (simp only [Te.enc, Te.parts, List.map_cons, List.map_nil, partsD])
def wd (s : String) (r : List Nat) : List Nat := (s.toList.map Char.toNat) ++ r
/-- the text -/
def Te.txt : Te → List Nat
  | .s => wd "(name s)" []
  | .k => wd "(name k)" []
  | .n => wd "(new n 0)" []
  | .own => wd "(own 1)" []
  | .x => wd "(var x 0)" []
  | .c => wd "(name c)" []
  | .m => wd "(name m)" []
  | .k0 => wd "(name k0)" []
  | .k1 => wd "(name k1)" []
  | .k2 => wd "(name k2)" []
  | .k3 => wd "(name k3)" []
  | .pair a b => wd "(pair " (a.txt ++ 32 :: (b.txt ++ [41]))
  | .lock a b => wd "(lock " (a.txt ++ 32 :: (b.txt ++ [41]))
  | .sea a b => wd "(seal " (a.txt ++ 32 :: (b.txt ++ [41]))
  | .shut a b => wd "(shut " (a.txt ++ wd " (pub " (b.txt ++ [41, 41]))
  | .print a => wd "(print " (a.txt ++ [41])
  | .pub a => wd "(pub " (a.txt ++ [41])
theorem wS2 (w : Str) (a : PyData) : wS (.tuple [.str w, a]) = 40 :: (w.cps.toList ++ 32 :: (wS a ++ [41])) := by
  simp only [wS, wSs, strD, List.isEmpty_cons, List.isEmpty_nil, if_true, Bool.false_eq_true, if_false, List.append_assoc, List.cons_append]
theorem wS3 (w : Str) (a b : PyData) : wS (.tuple [.str w, a, b]) = 40 :: (w.cps.toList ++ 32 :: (wS a ++ 32 :: (wS b ++ [41]))) := by
  simp only [wS, wSs, strD, List.isEmpty_cons, List.isEmpty_nil, if_true, Bool.false_eq_true, if_false, List.append_assoc, List.cons_append]
theorem wS_enc (t : Te) : wS t.enc = t.txt := by
  induction t with
  | s => decide +kernel
  | k => decide +kernel
  | n => decide +kernel
  | own => decide +kernel
  | x => decide +kernel
  | c => decide +kernel
  | m => decide +kernel
  | k0 => decide +kernel
  | k1 => decide +kernel
  | k2 => decide +kernel
  | k3 => decide +kernel
  | pair a b h1 h2 => simp only [Te.enc, Te.txt]; rw [wS3, h1, h2]; rfl
  | lock a b h1 h2 => simp only [Te.enc, Te.txt]; rw [wS3, h1, h2]; rfl
  | sea a b h1 h2 => simp only [Te.enc, Te.txt]; rw [wS3, h1, h2]; rfl
  | shut a b h1 h2 => simp only [Te.enc, Te.txt]; rw [wS3, wS2, h1, h2]; simp only [List.append_assoc, List.cons_append]; rfl
  | print a h1 => simp only [Te.enc, Te.txt]; rw [wS2, h1]; rfl
  | pub a h1 => simp only [Te.enc, Te.txt]; rw [wS2, h1]; rfl
theorem txt_inj : ∀ (s t : Te) (r q : List Nat), s.txt ++ r = t.txt ++ q → s = t ∧ r = q := by
  intro s
  induction s with
  | s => intro t r q h; cases t <;> simp [Te.txt, wd] at h ⊢ <;> first | exact h | skip
  | k => intro t r q h; cases t <;> simp [Te.txt, wd] at h ⊢ <;> first | exact h | skip
  | n => intro t r q h; cases t <;> simp [Te.txt, wd] at h ⊢ <;> first | exact h | skip
  | own => intro t r q h; cases t <;> simp [Te.txt, wd] at h ⊢ <;> first | exact h | skip
  | x => intro t r q h; cases t <;> simp [Te.txt, wd] at h ⊢ <;> first | exact h | skip
  | c => intro t r q h; cases t <;> simp [Te.txt, wd] at h ⊢ <;> first | exact h | skip
  | m => intro t r q h; cases t <;> simp [Te.txt, wd] at h ⊢ <;> first | exact h | skip
  | k0 => intro t r q h; cases t <;> simp [Te.txt, wd] at h ⊢ <;> first | exact h | skip
  | k1 => intro t r q h; cases t <;> simp [Te.txt, wd] at h ⊢ <;> first | exact h | skip
  | k2 => intro t r q h; cases t <;> simp [Te.txt, wd] at h ⊢ <;> first | exact h | skip
  | k3 => intro t r q h; cases t <;> simp [Te.txt, wd] at h ⊢ <;> first | exact h | skip
  | pair a b h1 h2 => intro t r q h; cases t <;> simp [Te.txt, wd] at h ⊢ <;> (obtain ⟨rfl, h⟩ := h1 _ _ _ h; simp at h; obtain ⟨rfl, h⟩ := h2 _ _ _ h; simp at h; exact ⟨⟨rfl, rfl⟩, h⟩)
  | lock a b h1 h2 => intro t r q h; cases t <;> simp [Te.txt, wd] at h ⊢ <;> (obtain ⟨rfl, h⟩ := h1 _ _ _ h; simp at h; obtain ⟨rfl, h⟩ := h2 _ _ _ h; simp at h; exact ⟨⟨rfl, rfl⟩, h⟩)
  | sea a b h1 h2 => intro t r q h; cases t <;> simp [Te.txt, wd] at h ⊢ <;> (obtain ⟨rfl, h⟩ := h1 _ _ _ h; simp at h; obtain ⟨rfl, h⟩ := h2 _ _ _ h; simp at h; exact ⟨⟨rfl, rfl⟩, h⟩)
  | shut a b h1 h2 => intro t r q h; cases t <;> simp [Te.txt, wd] at h ⊢ <;> (obtain ⟨rfl, h⟩ := h1 _ _ _ h; simp at h; obtain ⟨rfl, h⟩ := h2 _ _ _ h; simp at h; exact ⟨⟨rfl, rfl⟩, h⟩)
  | print a h1 => intro t r q h; cases t <;> simp [Te.txt, wd] at h ⊢ <;> (obtain ⟨rfl, h⟩ := h1 _ _ _ h; simp at h; exact ⟨rfl, h⟩)
  | pub a h1 => intro t r q h; cases t <;> simp [Te.txt, wd] at h ⊢ <;> (obtain ⟨rfl, h⟩ := h1 _ _ _ h; simp at h; exact ⟨rfl, h⟩)
theorem key_inj {s t : Te} (h : wS s.enc = wS t.enc) : s = t := by
  rw [wS_enc, wS_enc] at h
  exact (txt_inj s t [] [] (by rw [h])).1
theorem enc_inj {s t : Te} (h : s.enc = t.enc) : s = t := key_inj (by rw [h])
theorem size_pos (t : Te) : 1 ≤ t.size := by cases t <;> simp only [Te.size] <;> omega
theorem txt_len (t : Te) : t.txt.length ≤ 16 * t.size := by
  induction t <;> simp only [Te.txt, Te.size, wd, List.length_append, List.length_map, List.length_cons, List.length_nil] <;> simp <;> omega
theorem part_size {t p : Te} (h : p ∈ t.parts) : p.size < t.size := by
  cases t <;> simp only [Te.parts, List.mem_cons, List.not_mem_nil, or_false] at h <;> (first | (rcases h with rfl | rfl) | subst h | cases h) <;> simp only [Te.size] <;> omega
end WW

set_option maxHeartbeats 4000000
namespace WW
open PySem PySem.Spec PyProof.Rows L2
theorem imm_enc (t : Te) : imm t.enc = true := by
  induction t <;> simp_all [Te.enc, imm, imm.immAll]
theorem okS_enc (t : Te) : okS t.enc = true := by
  induction t <;> simp_all [Te.enc, okS, okS.okSs] <;> decide
theorem lay_enc (t : Te) : t.enc.canLay0 = true := by
  induction t <;> simp_all [Te.enc, PyData.canLay0, PyData.canLayAll0] <;> decide +kernel
theorem flat_enc (t : Te) : ∀ n, t.depth + 1 ≤ n → flatT n t.enc = true := by
  induction t with
  | s => intro n h; obtain ⟨m, rfl⟩ : ∃ m, n = m + 2 := ⟨n - 2, by simp only [Te.depth] at h; omega⟩; simp [Te.enc, flatT, flatTs]
  | k => intro n h; obtain ⟨m, rfl⟩ : ∃ m, n = m + 2 := ⟨n - 2, by simp only [Te.depth] at h; omega⟩; simp [Te.enc, flatT, flatTs]
  | n => intro n h; obtain ⟨m, rfl⟩ : ∃ m, n = m + 2 := ⟨n - 2, by simp only [Te.depth] at h; omega⟩; simp [Te.enc, flatT, flatTs]
  | own => intro n h; obtain ⟨m, rfl⟩ : ∃ m, n = m + 2 := ⟨n - 2, by simp only [Te.depth] at h; omega⟩; simp [Te.enc, flatT, flatTs]
  | x => intro n h; obtain ⟨m, rfl⟩ : ∃ m, n = m + 2 := ⟨n - 2, by simp only [Te.depth] at h; omega⟩; simp [Te.enc, flatT, flatTs]
  | c => intro n h; obtain ⟨m, rfl⟩ : ∃ m, n = m + 2 := ⟨n - 2, by simp only [Te.depth] at h; omega⟩; simp [Te.enc, flatT, flatTs]
  | m => intro n h; obtain ⟨m, rfl⟩ : ∃ m, n = m + 2 := ⟨n - 2, by simp only [Te.depth] at h; omega⟩; simp [Te.enc, flatT, flatTs]
  | k0 => intro n h; obtain ⟨m, rfl⟩ : ∃ m, n = m + 2 := ⟨n - 2, by simp only [Te.depth] at h; omega⟩; simp [Te.enc, flatT, flatTs]
  | k1 => intro n h; obtain ⟨m, rfl⟩ : ∃ m, n = m + 2 := ⟨n - 2, by simp only [Te.depth] at h; omega⟩; simp [Te.enc, flatT, flatTs]
  | k2 => intro n h; obtain ⟨m, rfl⟩ : ∃ m, n = m + 2 := ⟨n - 2, by simp only [Te.depth] at h; omega⟩; simp [Te.enc, flatT, flatTs]
  | k3 => intro n h; obtain ⟨m, rfl⟩ : ∃ m, n = m + 2 := ⟨n - 2, by simp only [Te.depth] at h; omega⟩; simp [Te.enc, flatT, flatTs]
  | pair a b h1 h2 => intro n h; simp only [Te.depth] at h; obtain ⟨m, rfl⟩ : ∃ m, n = m + 2 := ⟨n - 2, by omega⟩; simp [Te.enc, flatT, flatTs, h1 (m + 1) (by omega), h2 (m + 1) (by omega)]
  | lock a b h1 h2 => intro n h; simp only [Te.depth] at h; obtain ⟨m, rfl⟩ : ∃ m, n = m + 2 := ⟨n - 2, by omega⟩; simp [Te.enc, flatT, flatTs, h1 (m + 1) (by omega), h2 (m + 1) (by omega)]
  | sea a b h1 h2 => intro n h; simp only [Te.depth] at h; obtain ⟨m, rfl⟩ : ∃ m, n = m + 2 := ⟨n - 2, by omega⟩; simp [Te.enc, flatT, flatTs, h1 (m + 1) (by omega), h2 (m + 1) (by omega)]
  | shut a b h1 h2 => intro n h; simp only [Te.depth] at h; obtain ⟨m, rfl⟩ : ∃ m, n = m + 3 := ⟨n - 3, by omega⟩; simp [Te.enc, flatT, flatTs, h1 (m + 2) (by omega), h2 (m + 1) (by omega)]
  | print a h1 => intro n h; simp only [Te.depth] at h; obtain ⟨m, rfl⟩ : ∃ m, n = m + 2 := ⟨n - 2, by omega⟩; simp [Te.enc, flatT, flatTs, h1 (m + 1) (by omega)]
  | pub a h1 => intro n h; simp only [Te.depth] at h; obtain ⟨m, rfl⟩ : ∃ m, n = m + 2 := ⟨n - 2, by omega⟩; simp [Te.enc, flatT, flatTs, h1 (m + 1) (by omega)]
theorem part_depth {t p : Te} (h : p ∈ t.parts) : p.depth < t.depth := by
  cases t <;> simp only [Te.parts, List.mem_cons, List.not_mem_nil, or_false] at h <;> (first | (rcases h with rfl | rfl) | subst h | cases h) <;> simp only [Te.depth] <;> omega
def Te.ok (t : Te) : Prop := t.size ≤ 100 ∧ t.depth ≤ 10
theorem Te.ok.part {t p : Te} (h : t.ok) (hp : p ∈ t.parts) : p.ok := ⟨by have := part_size hp; have := h.1; omega, by have := part_depth hp; have := h.2; omega⟩
theorem Tm_enc : ∀ (n : Nat) (t : Te), t.size ≤ n → t.ok → Tm t.enc := by
  intro n
  induction n with
  | zero => intro t h; have := size_pos t; omega
  | succ n ih =>
    intro t h ht
    refine .mk (partsD_enc t) (flat_enc t 40 (by have := ht.2; omega)) (by rw [wS_enc]; have := txt_len t; have := ht.1; omega) (imm_enc t) (okS_enc t) (lay_enc t) fun p hp => ?_
    obtain ⟨q, hq, rfl⟩ := List.mem_map.mp hp
    exact ih q (by have := part_size hq; omega) (ht.part hq)
theorem Te.ok.tm {t : Te} (h : t.ok) : Tm t.enc := Tm_enc _ t (Nat.le_refl _) h
theorem szD_enc (t : Te) : szD t.enc ≤ 10 * t.size := by
  induction t <;> simp only [Te.enc, szD, szDs, Te.size] <;> omega
/-- the sum of sizes -/
def sizes (ts : List Te) : Nat := (ts.map Te.size).sum
theorem szDs_enc (ts : List Te) : szDs (ts.map Te.enc) ≤ 11 * sizes ts := by
  induction ts with
  | nil => simp [szDs, sizes]
  | cons t ts ih =>
    have := szD_enc t
    have := size_pos t
    simp only [List.map_cons, szDs, sizes, List.sum_cons] at *
    omega
theorem parts_sizes (t : Te) : sizes t.parts + 1 = t.size := by
  cases t <;> simp only [Te.parts, sizes, Te.size, List.map_cons, List.map_nil, List.sum_cons, List.sum_nil] <;> omega
/-- is_term, is_grown of a term -/
theorem grow_enc (mD mN : Nat) : ∀ (f : Nat) (l : List (Te × Nat)) (c : Nat), sizes (l.map (·.1)) < f → (∀ e ∈ l, e.1.depth + e.2 ≤ mD + 1) → c + sizes (l.map (·.1)) ≤ mN → grow mD mN f (l.map fun e => (e.1.enc, e.2)) c = true := by
  intro f
  induction f with
  | zero => intro l c h; omega
  | succ f ih =>
    intro l c h hd hn
    cases l with
    | nil => rfl
    | cons e l =>
      obtain ⟨t, k⟩ := e
      have hp := parts_sizes t
      have h0 := hd (t, k) (List.mem_cons_self ..)
      have hpos := size_pos t
      have hde : 1 ≤ t.depth := by cases t <;> simp only [Te.depth] <;> omega
      simp only [List.map_cons, sizes, List.sum_cons] at h hn hp
      simp only [List.map_cons, grow, partsD_enc]
      rw [if_neg (by
        simp only [Bool.or_eq_true, decide_eq_true_eq]
        simp only at h0
        omega)]
      have e2 : (List.map (fun p => (p, k + 1)) (List.map Te.enc t.parts)).reverse ++ List.map (fun e : Te × Nat => (e.1.enc, e.2)) l = List.map (fun e : Te × Nat => (e.1.enc, e.2)) ((t.parts.map fun p => (p, k + 1)).reverse ++ l) := by
        rw [List.map_append, List.map_reverse, List.map_map, List.map_map]
        rfl
      have e3 : sizes (((t.parts.map fun p => (p, k + 1)).reverse ++ l).map (·.1)) = sizes t.parts + sizes (l.map (·.1)) := by
        unfold sizes
        rw [List.map_append, List.map_append, List.sum_append, List.map_reverse, List.map_reverse, List.sum_reverse, List.map_map, List.map_map]
        rfl
      rw [e2]
      refine ih _ _ ?_ ?_ ?_
      · rw [e3]; unfold sizes; omega
      · intro e he
        rcases List.mem_append.mp he with he | he
        · obtain ⟨p, hp2, rfl⟩ := List.mem_map.mp (List.mem_reverse.mp he)
          have := part_depth hp2
          simp only at h0 ⊢
          omega
        · exact hd e (List.mem_cons_of_mem _ he)
      · rw [e3]; unfold sizes; omega
theorem isTerm_enc {t : Te} (h : t.size ≤ 80) (h2 : t.depth ≤ 14) : growD 14 80 t.enc = true := by
  unfold growD
  exact grow_enc 14 80 82 [(t, 1)] 0 (by simp [sizes]; omega) (by simp; omega) (by simp [sizes]; omega)
theorem isGrown_enc {t : Te} (h : t.ok) : growD 200 2000 t.enc = true := by
  unfold growD
  exact grow_enc 200 2000 2002 [(t, 1)] 0 (by simp [sizes]; have := h.1; omega) (by simp; have := h.2; omega) (by simp [sizes]; have := h.1; omega)
/-- subterms_of over terms -/
noncomputable def subsE : Nat → List Te → List Te → List Te
  | 0, _, found => found
  | _ + 1, [], found => found
  | f + 1, t :: l, found => if t ∈ found then subsE f l found else subsE f (t.parts ++ l) (found ++ [t])
theorem any_key (found : List Te) (t : Te) : ((found.map Te.enc).any fun u => decide (wS u = wS t.enc)) = true ↔ t ∈ found := by
  rw [List.any_eq_true]
  constructor
  · rintro ⟨u, hu, h⟩
    obtain ⟨q, hq, rfl⟩ := List.mem_map.mp hu
    rwa [← key_inj (of_decide_eq_true h)]
  · intro h
    exact ⟨t.enc, List.mem_map_of_mem h, by simp⟩
theorem subsL_enc : ∀ (f : Nat) (l found : List Te), subsL f (l.map Te.enc) (found.map Te.enc) = (subsE f l found).map Te.enc := by
  intro f
  induction f with
  | zero => intro l found; rfl
  | succ f ih =>
    intro l found
    cases l with
    | nil => rfl
    | cons t l =>
      simp only [List.map_cons, subsL, subsE]
      by_cases h : t ∈ found
      · rw [if_pos ((any_key found t).mpr h), if_pos h]
        exact ih l found
      · rw [if_neg (fun g => h ((any_key found t).mp g)), if_neg h, partsD_enc, ← ih, List.map_append, List.map_append]
        rfl
noncomputable def subsT (ts : List Te) : List Te := subsE (szDs (ts.map Te.enc) + 1) ts []
theorem subsD_enc (ts : List Te) : subsD (ts.map Te.enc) = (subsT ts).map Te.enc := subsL_enc _ ts []
/-- p lies within t -/
inductive Sub : Te → Te → Prop
  | rfl (t : Te) : Sub t t
  | part {p q t : Te} : p ∈ q.parts → Sub q t → Sub p t
theorem Sub.trans {a b c : Te} (h : Sub a b) (g : Sub b c) : Sub a c := by
  induction h with
  | rfl => exact g
  | part hp _ ih => exact .part hp (ih g)
theorem Sub.down {a t : Te} (h : Sub a t) : a = t ∨ ∃ p ∈ t.parts, Sub a p := by
  induction h with
  | rfl => exact .inl _root_.rfl
  | @part p q t hp hs ih =>
    rcases ih with rfl | ⟨r, hr, hs2⟩
    · exact .inr ⟨p, hp, .rfl p⟩
    · exact .inr ⟨r, hr, .part hp hs2⟩
/-- what subterms_of finds -/
theorem subsE_law : ∀ (f : Nat) (l found : List Te), szDs (l.map Te.enc) < f → found.Nodup → (∀ t ∈ found, ∀ p ∈ t.parts, p ∈ found ∨ p ∈ l) →
    (subsE f l found).Nodup ∧ (∀ t ∈ subsE f l found, t ∈ found ∨ ∃ u ∈ l, Sub t u) ∧ (∀ t, t ∈ found ∨ t ∈ l → t ∈ subsE f l found) ∧ (∀ t ∈ subsE f l found, ∀ p ∈ t.parts, p ∈ subsE f l found) := by
  intro f
  induction f with
  | zero => intro l found h; omega
  | succ f ih =>
    intro l found h hn hp
    cases l with
    | nil => exact ⟨hn, fun t h => .inl h, fun t h => h.resolve_right (by simp), fun t h p g => (hp t h p g).resolve_right (by simp)⟩
    | cons t l =>
      simp only [List.map_cons, szDs] at h
      simp only [subsE]
      by_cases ht : t ∈ found
      · rw [if_pos ht]
        obtain ⟨h1, h2, h3, h4⟩ := ih l found (by omega) hn (fun u hu p hp2 => by
          rcases hp u hu p hp2 with g | g
          · exact .inl g
          · rcases List.mem_cons.mp g with rfl | g
            · exact .inl ht
            · exact .inr g)
        refine ⟨h1, fun a ha => ?_, fun a ha => h3 a ?_, h4⟩
        · rcases h2 a ha with g | ⟨v, hv, hs⟩
          · exact .inl g
          · exact .inr ⟨v, List.mem_cons_of_mem _ hv, hs⟩
        · rcases ha with g | g
          · exact .inl g
          · rcases List.mem_cons.mp g with rfl | g
            · exact .inl ht
            · exact .inr g
      · rw [if_neg ht]
        have hsz := parts_sz (partsD_enc t)
        obtain ⟨h1, h2, h3, h4⟩ := ih (t.parts ++ l) (found ++ [t]) (by rw [List.map_append, szDs_app]; omega) (by
          rw [List.nodup_append]
          exact ⟨hn, by simp, fun a ha b hb => by
            rw [List.mem_singleton.mp hb]
            rintro rfl
            exact ht ha⟩) (fun u hu p hp2 => by
          rcases List.mem_append.mp hu with hu | hu
          · rcases hp u hu p hp2 with g | g
            · exact .inl (List.mem_append_left _ g)
            · rcases List.mem_cons.mp g with rfl | g
              · exact .inl (List.mem_append_right _ (List.mem_singleton.mpr (by rfl)))
              · exact .inr (List.mem_append_right _ g)
          · rw [List.mem_singleton.mp hu] at hp2
            exact .inr (List.mem_append_left _ hp2))
        refine ⟨h1, fun a ha => ?_, fun a ha => h3 a ?_, h4⟩
        · rcases h2 a ha with g | ⟨v, hv, hs⟩
          · rcases List.mem_append.mp g with g | g
            · exact .inl g
            · rw [List.mem_singleton.mp g]
              exact .inr ⟨t, List.mem_cons_self .., .rfl t⟩
          · rcases List.mem_append.mp hv with hv | hv
            · exact .inr ⟨t, List.mem_cons_self .., hs.trans (.part hv (.rfl t))⟩
            · exact .inr ⟨v, List.mem_cons_of_mem _ hv, hs⟩
        · rcases ha with g | g
          · exact .inl (List.mem_append_left _ g)
          · rcases List.mem_cons.mp g with rfl | g
            · exact .inl (List.mem_append_right _ (List.mem_singleton.mpr (by rfl)))
            · exact .inr (List.mem_append_right _ g)
theorem subsT_nodup (ts : List Te) : (subsT ts).Nodup := (subsE_law _ ts [] (Nat.lt_succ_self _) List.nodup_nil (fun _ h => nomatch h)).1
theorem subsT_mem (ts : List Te) (t : Te) : t ∈ subsT ts ↔ ∃ u ∈ ts, Sub t u := by
  obtain ⟨_, h2, h3, h4⟩ := subsE_law (szDs (ts.map Te.enc) + 1) ts [] (Nat.lt_succ_self _) List.nodup_nil (fun _ h => nomatch h)
  constructor
  · intro h
    exact (h2 t h).resolve_left (by simp)
  · rintro ⟨u, hu, hs⟩
    have hu' : u ∈ subsT ts := h3 u (.inr hu)
    induction hs with
    | rfl => exact hu'
    | part hp _ ih => exact h4 _ (ih hu hu') _ hp
theorem Sub.size {a t : Te} (h : Sub a t) : a.size ≤ t.size := by
  induction h with
  | rfl => exact Nat.le_refl _
  | part hp _ ih => have := part_size hp; omega
theorem Sub.ok {a t : Te} (h : Sub a t) (g : t.ok) : a.ok := by
  induction h with
  | rfl => exact g
  | part hp _ ih => exact (ih g).part hp
end WW

set_option maxHeartbeats 4000000
namespace WW
open PySem PySem.Spec PyProof.Rows L2
def sE (t : Te) : Str := S (wS t.enc)
def kE (t : Te) : Key := Sum.inr (sE t)
theorem sE_inj {s t : Te} (h : sE s = sE t) : s = t := key_inj (S_inj.mp h)
theorem kE_inj {s t : Te} (h : kE s = kE t) : s = t := sE_inj (by injection h)
/-- a dict: text of a term, value -/
def dkE : List Te → List V → List (Key × V)
  | t :: ts, v :: vs => (kE t, v) :: dkE ts vs
  | _, _ => []
theorem dkE_snoc : ∀ {ts : List Te} {vs : List V}, ts.length = vs.length → ∀ (t : Te) (v : V), dkE (ts ++ [t]) (vs ++ [v]) = dkE ts vs ++ [(kE t, v)]
  | [], [], _, _, _ => rfl
  | _ :: ts, _ :: vs, h, t, v => by
    simp only [List.cons_append, dkE]
    rw [dkE_snoc (by simpa using h) t v]
theorem dkE_keys : ∀ {ts : List Te} {vs : List V}, ts.length = vs.length → (dkE ts vs).map (·.1) = (ts.map sE).map Sum.inr
  | [], [], _ => rfl
  | t :: ts, _ :: vs, h => by
    simp only [dkE, List.map_cons]
    rw [dkE_keys (by simpa using h)]
    rfl
theorem dkE_len : ∀ {ts : List Te} {vs : List V}, ts.length = vs.length → (dkE ts vs).length = ts.length
  | [], [], _ => rfl
  | _ :: ts, _ :: vs, h => by
    simp only [dkE, List.length_cons]
    rw [dkE_len (by simpa using h)]
theorem val_ne {k k2 : Key} {v : V} {l : List (Key × V)} (h : k2 ≠ k) : valV ((k2, v) :: l) k = valV l k := by
  unfold valV
  rw [List.find?_cons_of_neg]
  simpa using h
theorem dkE_none : ∀ {ts : List Te} {vs : List V} {t : Te}, t ∉ ts → valV (dkE ts vs) (kE t) = none
  | [], [], _, _ => rfl
  | [], _ :: _, _, _ => rfl
  | _ :: _, [], _, _ => rfl
  | u :: ts, v :: vs, t, h => by
    simp only [dkE]
    rw [val_ne (fun e => h (by rw [← kE_inj e]; exact List.mem_cons_self ..))]
    exact dkE_none fun g => h (List.mem_cons_of_mem _ g)
theorem dkE_some : ∀ {ts : List Te} {vs : List V} {i : Nat} {t : Te} {v : V}, ts.Nodup → ts[i]? = some t → vs[i]? = some v → valV (dkE ts vs) (kE t) = some v
  | [], _, _, _, _, _, h, _ => by simp at h
  | _ :: _, [], _, _, _, _, _, h => by simp at h
  | u :: ts, w :: vs, 0, t, v, _, h, g => by
    simp at h g
    subst h g
    simp only [dkE]
    exact valV_pos _root_.rfl
  | u :: ts, w :: vs, i + 1, t, v, hn, h, g => by
    simp at h g
    rw [List.nodup_cons] at hn
    simp only [dkE]
    rw [val_ne (fun e => hn.1 (by rw [kE_inj e]; exact List.mem_of_getElem? h))]
    exact dkE_some hn.2 h g
theorem dkE_has {ts : List Te} {vs : List V} (hl : ts.length = vs.length) (hn : ts.Nodup) (t : Te) : (valV (dkE ts vs) (kE t)).isSome = decide (t ∈ ts) := by
  by_cases h : t ∈ ts
  · obtain ⟨i, hi, e⟩ := List.getElem_of_mem h
    rw [dkE_some (i := i) (v := vs[i]'(by omega)) hn (by rw [List.getElem?_eq_getElem hi, e]) (List.getElem?_eq_getElem _), decide_eq_true h]
    rfl
  · rw [dkE_none h, decide_eq_false h]
    rfl
theorem dkE_put {ts : List Te} {vs : List V} (hl : ts.length = vs.length) {t : Te} (h : t ∉ ts) (v : V) : putK (dkE ts vs) (kE t) v = dkE (ts ++ [t]) (vs ++ [v]) := by
  rw [putK_new _ (dkE_none h), dkE_snoc hl]
/-- the terms in the order of their texts -/
noncomputable def ordE (ts : List Te) : List Te := (sortT (ts.map sE)).filterMap fun z => ts.find? fun t => decide (sE t = z)
theorem find_sE {ts : List Te} {t : Te} (h : t ∈ ts) : (ts.find? fun u => decide (sE u = sE t)) = some t := by
  cases e : ts.find? fun u => decide (sE u = sE t) with
  | none =>
    have := List.find?_eq_none.mp e t h
    simp at this
  | some u =>
    have := List.find?_some e
    rw [sE_inj (of_decide_eq_true this)]
theorem ordE_map (ts : List Te) : (ordE ts).map sE = sortT (ts.map sE) := by
  have gen : ∀ zs : List Str, (∀ z ∈ zs, z ∈ ts.map sE) → (zs.filterMap fun z => ts.find? fun t => decide (sE t = z)).map sE = zs := by
    intro zs
    induction zs with
    | nil => intro _; rfl
    | cons z zs ih =>
      intro h
      obtain ⟨t, ht, rfl⟩ := List.mem_map.mp (h z (List.mem_cons_self ..))
      rw [List.filterMap_cons, find_sE ht]
      simp only [List.map_cons]
      rw [ih fun y hy => h y (List.mem_cons_of_mem _ hy)]
  exact gen _ fun z hz => (sortT_perm _).mem_iff.mp hz
theorem map_inj : ∀ {a b : List Te}, a.map sE = b.map sE → a = b
  | [], [], _ => _root_.rfl
  | [], _ :: _, h => by simp at h
  | _ :: _, [], h => by simp at h
  | s :: a, t :: b, h => by
    simp only [List.map_cons, List.cons.injEq] at h
    rw [sE_inj h.1, map_inj h.2]
theorem perm_map {a b : List Te} (h : (a.map sE).Perm (b.map sE)) : a.Perm b := by
  induction a generalizing b with
  | nil => simpa using h
  | cons t a ih =>
    have ht : sE t ∈ b.map sE := h.mem_iff.mp (by simp)
    obtain ⟨u, hu, e⟩ := List.mem_map.mp ht
    rw [sE_inj e] at hu
    obtain ⟨b1, b2, rfl⟩ := List.append_of_mem hu
    have h2 : ((t :: a).map sE).Perm ((t :: (b1 ++ b2)).map sE) := h.trans (List.perm_middle.map sE)
    simp only [List.map_cons, List.perm_cons] at h2
    exact (List.Perm.cons t (ih h2)).trans List.perm_middle.symm
theorem ordE_perm (ts : List Te) : (ordE ts).Perm ts := perm_map (by rw [ordE_map]; exact sortT_perm _)
theorem str_list {a b : Str} (h : a.cps.toList = b.cps.toList) : a = b := by
  cases a; cases b
  simp only at h
  congr
  exact Array.toList_inj.mp h
theorem sortT_pair (ks : List Str) : (sortT ks).Pairwise fun a b => a.cps.toList ≤ b.cps.toList := by
  have := List.pairwise_mergeSort (le := fun a b : Str => decide (a.cps.toList ≤ b.cps.toList)) (fun a b c h g => decide_eq_true (List.le_trans (of_decide_eq_true h) (of_decide_eq_true g))) (fun a b => by
    rcases List.le_total a.cps.toList b.cps.toList with h | h
    · rw [decide_eq_true h]; rfl
    · rw [decide_eq_true h]; exact Bool.or_true _) ks
  exact this.imp fun h => of_decide_eq_true h
theorem sortT_eq {a b : List Str} (h : a.Perm b) : sortT a = sortT b := by
  refine List.Perm.eq_of_pairwise (le := fun a b : Str => a.cps.toList ≤ b.cps.toList) (fun x y _ _ h1 h2 => str_list (List.le_antisymm h1 h2)) (sortT_pair a) (sortT_pair b) ?_
  exact (sortT_perm a).trans (h.trans (sortT_perm b).symm)
theorem ordE_eq {a b : List Te} (h : a.Perm b) : ordE a = ordE b := map_inj (by rw [ordE_map, ordE_map, sortT_eq (h.map sE)])
theorem ordE_nodup {a : List Te} (h : a.Nodup) : (ordE a).Nodup := (ordE_perm a).nodup_iff.mpr h
theorem ordE_ord (a : List Te) : ordE (ordE a) = ordE a := ordE_eq (ordE_perm a)
end WW

set_option maxHeartbeats 4000000
namespace WW
open PySem PySem.Spec PyProof.Rows L2
/-- a list or a tuple, walked -/
def iAny (K : PySem.W.Frag) (tl : TE) : TI := fun σ H R => tl σ H fun x H1 => ∃ a, x = .ref a ∧ (((∃ xs, SqL K H1 a xs) ∧ R (Itl K a) H1) ∨ ((∃ xs, SqT K H1 a xs) ∧ R (Itt K a) H1))
theorem pi_any {X : Cx} {tg l : Expr} {tl : TE} (hl : PE X l tl) : PI X tg l (iAny X.K tl) := by
  refine ⟨fun pins s σ H R I h => ?_⟩
  refine thn (hl.run pins s σ H _ I h) fun v s1 ⟨x, H1, I1, r1, q1⟩ => ?_
  obtain ⟨a, e, q⟩ := q1
  subst e
  cases r1
  rcases q with ⟨⟨xs, hq⟩, q⟩ | ⟨⟨xs, hq⟩, q⟩
  · obtain ⟨its, rv, p, hz⟩ := I1.list hq
    refine wpAny_pyIter_list p.isList ?_
    refine ⟨s1.heap.objs.size, [s1.heap.objs.size], _, _, H1, rfl, I1.kept (t' := s1.toks) fun b o e => Heap.get?_push_of_some _ e, turn_list a _, ⟨_, Heap.get?_push_size _ rfl, rfl, rfl⟩, fun b hb => ?_, q⟩
    have e : b = s1.heap.objs.size := by simpa using hb
    subst e
    exact I1.fpOk (Nat.le_refl _) (I1.hok.fresh (Nat.le_refl _))
  · obtain ⟨its, rv, p, hz⟩ := I1.tuple hq
    refine wpAny_pyIter_tuple (show s1.heap.IsTuple a its.toArray from p) ?_
    refine ⟨s1.heap.objs.size, [s1.heap.objs.size], _, _, H1, rfl, I1.kept (t' := s1.toks) fun b o e => Heap.get?_push_of_some _ e, turn_tuple a _, ⟨_, Heap.get?_push_size _ rfl, rfl, rfl⟩, fun b hb => ?_, q⟩
    have e : b = s1.heap.objs.size := by simpa using hb
    subst e
    exact I1.fpOk (Nat.le_refl _) (I1.hok.fresh (Nat.le_refl _))
end WW

set_option maxHeartbeats 4000000
namespace WW
open PySem PySem.Spec PyProof.Rows L2
local macro_rules | `(tactic| walk_at "x") => `(tactic| simp only [tSeq, tNext, tAsg, gName, tRet, tRetN, tIfS, tOp, tUn, rI, rI0, rU, tTest, tB, tAnd, tOr, tNot, tAndV, tOrV, tNotV, tIf, tCons, tNil, tTup, tLst, tCall, tCallS, tMeth, tMake, tFld, sFld, tBM, tBM0, tCB, tSl, tPart, tNoPart, tDrop, tPar, tPar3, tAug, ipI, gTup, gCons, gNil, gSub, rSetL, rAppend, rPop, rIxL, rIxS, rIxT, rEq, rNe, tChain, tNever, tThen, tVar, tC, L2.start, List.map_cons, List.map_nil, List.length_cons, List.length_nil, List.replicate_succ, List.replicate_zero, List.append_nil, List.nil_append, List.cons_append, Nat.reduceAdd, Nat.reduceSub, Nat.add_zero, Nat.zero_add, Nat.sub_zero, Nat.sub_self,
  List.getElem?_cons_zero, List.getElem?_cons_succ, Option.some.injEq, exists_eq_left', exists_eq_left, exists_eq', exists_eq, exists_and_left, List.set_cons_zero, List.set_cons_succ, V.int.injEq, V.bl.injEq, V.str.injEq, V.ref.injEq, V.ty.injEq, List.cons.injEq, and_true, true_and, and_assoc, if_true, if_false, Bool.false_eq_true, reduceCtorEq, false_and, and_false, exists_false, false_or, or_false, Bool.not_true, Bool.not_false, decide_eq_true_eq, ite_true, ite_false, WE, cxOf_K, cxOf_mg, rSlS, scal, wipe, mem_low, mem_dig, mem_brk, mem_brk4, sgn_inj, Bool.decide_eq_true])

def spOrd (K : PySem.W.Frag) : Sp := fun vs H Q _ => ∃ a xs ts, vs = [.ref a] ∧ (SqL K H a xs ∨ SqT K H a xs) ∧ DpAll K H xs (ts.map Te.enc) ∧ ts.Nodup ∧ (∀ t ∈ ts, t.ok) ∧ ts.length ≤ 1000 ∧
  ∀ p us H', Same H H' → H p = none → H' p = some (.tup us) → DpAll K H' us ((ordE ts).map Te.enc) → Q (.ref p) H'
section
variable {P : Program} {w : World} {K : PySem.W.Frag} {mg : Str → Option Value} {base : Heap}
theorem o_in_order (W : Wd fa fn K mg) : OkF P w K mg base d_in_order 60 ["terms"] (spOrd K) := by
  have o_shown := (o_shown (P := P) (w := w) (base := base) W 40).mono (show 40 + 1 ≤ 59 by decide)
  obtain ⟨fd_shown, F_shown, b_shown, k_shown⟩ := o_shown.ex
  refine okf W (d := d_in_order) 7 sc_in_order rfl rfl (fun _ _ _ _ _ _ us hl => match us, hl with | [_], _ => rfl) ?len (fun cdv A outer s H vs Q E hr nd hu tk po h => ?body)
  case len =>
    rintro vs H Q E ⟨_, _, _, rfl, _⟩
    rfl
  case body =>
    refine ⟨_, (pss_cons (ps_set (i := 1) nd rfl (by first | exact Or.inl rfl | exact Or.inr rfl) pe_dnewK)
    (pss_cons (ps_for po rfl (pi_any (pv 0)) (pg_name (i := 2) nd rfl (by first | exact Or.inl rfl | exact Or.inr rfl))
      (pss_one (ps_dput hu (pv 1) (by exact (pe_callS F_shown (hr.mono (by first | decide | omega)) rfl (W.glo 22) k_shown b_shown (fun σ => passAt tk σ) (by exact (pa_cons (pv 2) pa_nil)))) (pv 2) rfl)))
    (pss_one (ps_ret (pe_callTy call_tuple_of (by rfl) (W.free 14) (by decide +kernel) (pa_cons (pe_lc (own := [("text", 3)]) (g := (gName 3)) (tt := tYes) rfl nd (pi_list (pe_callB (call_sortedDX rfl hr.units) (by rfl) (W.free 23) (by decide +kernel) (pa_cons (pv 1) pa_nil))) (blkOk_by (own := [("text", 3)]) (N := ["terms", "found", "term", "text"]) (sc := defScope s_in_order) (by decide +kernel)) (fun _ _ _ _ _ => (pg_name (i := 3) nd rfl (by first | exact Or.inl rfl | exact Or.inr rfl))) (fun _ _ _ _ _ => pts_nil) (fun _ _ _ _ _ => (pe_dget hu (pv 1) (pv 3) (fun _ _ => rfl)))) pa_nil)))))), ?_⟩
    obtain ⟨a, xs, ts, rfl, hsq, hdp, hnd, hok, hln, hq⟩ := h
    clear tk po
    have szl := sizeLine_eq
    have hxl := DpAll.length hdp
    rw [List.length_map] at hxl
    simp only [tSeq, tNext, tAsg, gName, tRet, tRetN, tIfS, tOp, tUn, rI, rI0, rU, tTest, tB, tAnd, tOr, tNot, tAndV, tOrV, tNotV, tIf, tCons, tNil, tTup, tLst, tCall, tCallS, tMeth, tMake, tFld, sFld, tBM, tBM0, tCB, tSl, tPart, tNoPart, tDrop, tPar, tPar3, tAug, ipI, gTup, gCons, gNil, gSub, rSetL, rAppend, rPop, rIxL, rIxS, rIxT, rEq, rNe, tChain, tNever, tThen, tVar, tC, L2.start, List.map_cons, List.map_nil, List.length_cons, List.length_nil, List.replicate_succ, List.replicate_zero, List.append_nil, List.nil_append, List.cons_append, Nat.reduceAdd, Nat.reduceSub, Nat.add_zero, Nat.zero_add, Nat.sub_zero, Nat.sub_self,
  List.getElem?_cons_zero, List.getElem?_cons_succ, Option.some.injEq, exists_eq_left', exists_eq_left, exists_eq', exists_eq, exists_and_left, List.set_cons_zero, List.set_cons_succ, V.int.injEq, V.bl.injEq, V.str.injEq, V.ref.injEq, V.ty.injEq, List.cons.injEq, and_true, true_and, and_assoc, if_true, if_false, Bool.false_eq_true, reduceCtorEq, false_and, and_false, exists_false, false_or, or_false, Bool.not_true, Bool.not_false, decide_eq_true_eq, ite_true, ite_false, WE, cxOf_K, cxOf_mg, rSlS, scal, wipe, mem_low, mem_dig, mem_brk, mem_brk4, sgn_inj, Bool.decide_eq_true, HO.ins.injEq, HO.lst.injEq, HO.tup.injEq, upd_same, ne_eq, not_false_eq_true, tDNewK]
    intro Da hDa
    have s0 := Same.new (o := HO.dK []) hDa
    obtain ⟨J, G, wk, hJ, hG⟩ : ∃ J G, Walk J xs.length G (YAt xs) ∧ (∀ (R : It → Hp → Prop) σ' , σ' = [some (V.ref a), some (V.ref Da), none, none] → R J (upd H Da (.dK [])) → iAny K (tVar 0) σ' (upd H Da (.dK [])) R) ∧ (∀ H', Same H H' → G H') := by
      rcases hsq with h | h
      · exact ⟨_, _, walk_list, fun R σ' e hR => by
          subst e
          simp only [iAny]
          walk_at "x"
          exact .inl ⟨⟨_, s0.seq h⟩, hR⟩, fun H' s => s.seq h⟩
      · exact ⟨_, _, walk_tup, fun R σ' e hR => by
          subst e
          simp only [iAny]
          walk_at "x"
          exact .inr ⟨⟨_, (Tx.of s0).sqt h⟩, hR⟩, fun H' s => (Tx.of s).sqt h⟩
    refine tFor_same wk (fun R hR => hJ R _ rfl hR) (fun i σ H1 => ∃ y2 y3, σ = [some (V.ref a), some (V.ref Da), y2, y3] ∧ Same H H1 ∧ H1 Da = some (.dK (dkE (ts.take i) (xs.take i)))) ⟨_, _, rfl, s0, by rw [upd_same]; rfl⟩ (fun i σ H1 _ h => hG H1 (by obtain ⟨_, _, _, h, _⟩ := h; exact h)) ?_ ?_
    · rintro i x σ H1 H2 hi ⟨y2, y3, rfl, s1, hd1⟩ ⟨rfl, hx⟩
      obtain ⟨d, hd, hv⟩ := DpAll.get hdp hx
      rw [List.getElem?_map] at hd
      obtain ⟨t, ht, rfl⟩ := Option.map_eq_some_iff.mp hd
      have tt := (hok t (List.mem_of_getElem? ht)).tm
      simp only [tSeq, tNext, tAsg, gName, tRet, tRetN, tIfS, tOp, tUn, rI, rI0, rU, tTest, tB, tAnd, tOr, tNot, tAndV, tOrV, tNotV, tIf, tCons, tNil, tTup, tLst, tCall, tCallS, tMeth, tMake, tFld, sFld, tBM, tBM0, tCB, tSl, tPart, tNoPart, tDrop, tPar, tPar3, tAug, ipI, gTup, gCons, gNil, gSub, rSetL, rAppend, rPop, rIxL, rIxS, rIxT, rEq, rNe, tChain, tNever, tThen, tVar, tC, L2.start, List.map_cons, List.map_nil, List.length_cons, List.length_nil, List.replicate_succ, List.replicate_zero, List.append_nil, List.nil_append, List.cons_append, Nat.reduceAdd, Nat.reduceSub, Nat.add_zero, Nat.zero_add, Nat.sub_zero, Nat.sub_self,
  List.getElem?_cons_zero, List.getElem?_cons_succ, Option.some.injEq, exists_eq_left', exists_eq_left, exists_eq', exists_eq, exists_and_left, List.set_cons_zero, List.set_cons_succ, V.int.injEq, V.bl.injEq, V.str.injEq, V.ref.injEq, V.ty.injEq, List.cons.injEq, and_true, true_and, and_assoc, if_true, if_false, Bool.false_eq_true, reduceCtorEq, false_and, and_false, exists_false, false_or, or_false, Bool.not_true, Bool.not_false, decide_eq_true_eq, ite_true, ite_false, WE, cxOf_K, cxOf_mg, rSlS, scal, wipe, mem_low, mem_dig, mem_brk, mem_brk4, sgn_inj, Bool.decide_eq_true, HO.ins.injEq, HO.lst.injEq, HO.tup.injEq, upd_same, ne_eq, not_false_eq_true, sDPut]
      refine ⟨x, t.enc, rfl, Dp.sm s1 _ _ hv, tt.flat, by have := tt.len; omega, fun H3 s3 => ?_⟩
      have hti : (ts.take i).length = (xs.take i).length := by rw [List.length_take, List.length_take, hxl]
      have hni : t ∉ ts.take i := fun h => by
        obtain ⟨j, hj, e⟩ := List.getElem_of_mem h
        rw [List.length_take] at hj
        rw [List.getElem_take] at e
        have hi2 : i < ts.length := by omega
        have e2 : ts[i] = t := by rw [List.getElem?_eq_getElem hi2] at ht; injection ht
        exact List.pairwise_iff_getElem.mp hnd j i (by omega) hi2 (by omega) (e.trans e2.symm)
      have kl : (dkE (ts.take i) (xs.take i)).length < sizeLine := by
        rw [dkE_len hti, List.length_take]
        omega
      have e4 : putK (dkE (ts.take i) (xs.take i)) (kE t) x = dkE (ts.take (i + 1)) (xs.take (i + 1)) := by
        rw [dkE_put hti hni, List.take_add_one, List.take_add_one, ht, hx]
        rfl
      refine ⟨_, DPut.k (s3 _ _ hd1) (k := kE t) kl, Same.mut (Same.trans s1 s3) hDa, ?_⟩
      rw [upd_same]
      exact congrArg (fun l => some (HO.dK l)) e4
    · rintro σ H1 ⟨y2, y3, rfl, s1, hd1⟩
      rw [List.take_of_length_le (Nat.le_of_eq hxl.symm), List.take_of_length_le (Nat.le_refl _)] at hd1
      walk_at "x"
      have hpm := ordE_map ts
      have hI : ∀ (R : It → Hp → Prop), (∀ p, H1 p = none → R (Itl K p) (upd H1 p (.lst ((ordE ts).map fun t => V.str (sE t))))) → iList K (tCB rSortDX (tCons (tVar 1) tNil)) [some (V.ref a), some (V.ref Da), y2, y3] H1 R := by
        intro R hR
        simp only [iList]
        walk_at "x"
        refine ⟨Da, _, ts.map sE, rfl, hd1, dkE_keys hxl.symm, by rw [List.length_map]; omega, fun p hp => ⟨p, rfl, ⟨_, SqL.of upd_same⟩, ?_⟩⟩
        rw [← hpm, List.map_map]
        exact hR p hp
      unfold tLc
      have hol : (ordE ts).length = ts.length := (ordE_perm ts).length_eq
      refine hI _ fun p hp D hD => ?_
      have s2 := Same.trans s1 (Same.new (o := HO.lst ((ordE ts).map fun t => V.str (sE t))) hp)
      have bD := Same.none s2 hD
      refine lc_it (walk_list (K := K) (a := p) (xs := (ordE ts).map fun t => V.str (sE t))) (fun i H2 => Same (upd H1 p (.lst ((ordE ts).map fun t => V.str (sE t)))) H2 ∧ ∃ us, H2 D = some (.lst us) ∧ DpAll K H us (((ordE ts).take i).map Te.enc)) ⟨Same.new hD, [], upd_same, .nil⟩ (fun i H2 _ h => SqL.of (h.1 _ _ upd_same)) ?_ ?_
      · rintro i x H2 H3 hi ⟨s3, us, hus, hdu⟩ ⟨rfl, hx⟩
        rw [List.getElem?_map] at hx
        obtain ⟨t, ht, rfl⟩ := Option.map_eq_some_iff.mp hx
        have htm : t ∈ ts := (ordE_perm ts).mem_iff.mp (List.mem_of_getElem? ht)
        obtain ⟨j, hj, ej⟩ := List.getElem_of_mem htm
        have hg : valV (dkE ts xs) (kE t) = some xs[j] := dkE_some hnd (by rw [List.getElem?_eq_getElem hj, ej]) (List.getElem?_eq_getElem _)
        have hdx : Dp K H xs[j] t.enc := by
          obtain ⟨d, hd, hv⟩ := DpAll.get hdp (List.getElem?_eq_getElem (i := j) (by omega))
          rw [List.getElem?_map, List.getElem?_eq_getElem hj] at hd
          simp only [Option.map_some, Option.some.injEq, ej] at hd
          rw [hd]; exact hv
        have hdk : H3 Da = some (.dK (dkE ts xs)) := s3 _ _ (by rw [upd_ne (ne_of_none hd1 hp)]; exact hd1)
        have hul := DpAll.length hdu
        walk_at "x"
        simp only [tYes, if_true, tDGet]
        walk_at "x"
        refine ⟨xs[j], by rw [← hg]; exact DGet.k hdk (k := kE t), us, hus, ?_, Same.mut s3 hD, us ++ [xs[j]], upd_same, ?_⟩
        · rw [hul, List.length_map, List.length_take]; omega
        · rw [List.take_add_one, ht, List.map_append]
          exact DpAll.app hdu (.cons hdx .nil)
      · rintro H2 ⟨s3, us, hus, hdu⟩
        rw [List.length_map, List.take_length] at hdu
        refine ⟨D, _root_.rfl, us, .inl ⟨SqL.of hus, fun l hl => ?_⟩⟩
        have s4 := Same.trans s2 (fun b u e => s3 b u e)
        exact hq l us _ (Same.trans s4 (Same.new hl)) (Same.none s4 hl) upd_same (Dp.sms (Same.trans s4 (Same.new hl)) _ _ hdu)
end
end WW

set_option maxHeartbeats 4000000
namespace WW
open PySem PySem.Spec PyProof.Rows L2
/-! ### rules in a comprehension: the written part told -/
section
variable {X : Cx} {K : PySem.W.Frag}
theorem kIx {r : PySem.W.Frag → R2} (hK : X.K = K) (h : IxR X (r X.K)) : IxR X (r K) := hK ▸ h
theorem kOp {r : PySem.W.Frag → R2} {f : Value → Value → Sem Value} (hK : X.K = K) (h : OpR X f (r X.K)) : OpR X f (r K) := hK ▸ h
theorem kCall {r : PySem.W.Frag → List V → Hp → VK → Prop} {f : Value} (hK : X.K = K) (h : CallR X f (r X.K)) : CallR X f (r K) := hK ▸ h
def rLenK (K : PySem.W.Frag) : List V → Hp → VK → Prop := fun xs H Q => ∃ x n, xs = [x] ∧ LenV K x H n ∧ Q (.int n) H
def rTupOfK (K : PySem.W.Frag) : List V → Hp → VK → Prop := fun xs H Q => ∃ p ys, xs = [.ref p] ∧ ((SqL K H p ys ∧ ∀ l, H l = none → Q (.ref l) (upd H l (.tup ys))) ∨ (SqT K H p ys ∧ Q (.ref p) H))
def rListOfK (K : PySem.W.Frag) : List V → Hp → VK → Prop := fun xs H Q => ∃ p ys, xs = [.ref p] ∧ (SqL K H p ys ∨ SqT K H p ys) ∧ ∀ l, H l = none → Q (.ref l) (upd H l (.lst ys))
theorem pi_listK {tg l : Expr} {tl : TE} (hK : X.K = K) (hl : PE X l tl) : PI X tg l (iList K tl) := hK ▸ pi_list hl
theorem pi_tupK {tg l : Expr} {tl : TE} (hK : X.K = K) (hl : PE X l tl) : PI X tg l (iTup K tl) := hK ▸ pi_tup hl
end
/-! ### terms as values -/
abbrev Tr (K : PySem.W.Frag) (H : Hp) (v : V) (t : Te) : Prop := Dp K H v t.enc
abbrev Trs (K : PySem.W.Frag) (H : Hp) (vs : List V) (ts : List Te) : Prop := DpAll K H vs (ts.map Te.enc)
theorem Trs.len {K : PySem.W.Frag} {H : Hp} {vs : List V} {ts : List Te} (h : Trs K H vs ts) : vs.length = ts.length := by
  have := DpAll.length h
  rwa [List.length_map] at this
theorem Trs.get {K : PySem.W.Frag} {H : Hp} {vs : List V} {ts : List Te} (h : Trs K H vs ts) {i : Nat} {v : V} (e : vs[i]? = some v) : ∃ t, ts[i]? = some t ∧ Tr K H v t := by
  obtain ⟨d, hd, hv⟩ := DpAll.get h e
  rw [List.getElem?_map] at hd
  obtain ⟨t, ht, rfl⟩ := Option.map_eq_some_iff.mp hd
  exact ⟨t, ht, hv⟩
theorem Trs.at {K : PySem.W.Frag} {H : Hp} {vs : List V} {ts : List Te} (h : Trs K H vs ts) {i : Nat} {t : Te} (e : ts[i]? = some t) : ∃ v, vs[i]? = some v ∧ Tr K H v t := by
  have hl := h.len
  obtain ⟨hi, _⟩ := List.getElem?_eq_some_iff.mp e
  have e1 : vs[i]? = some vs[i] := List.getElem?_eq_getElem (by omega)
  obtain ⟨u, hu, hv⟩ := h.get e1
  rw [e] at hu
  cases hu
  exact ⟨_, e1, hv⟩
theorem Trs.sm {K : PySem.W.Frag} {H H' : Hp} {vs : List V} {ts : List Te} (s : Same H H') (h : Trs K H vs ts) : Trs K H' vs ts := Dp.sms s _ _ h
theorem Tr.sm {K : PySem.W.Frag} {H H' : Hp} {v : V} {t : Te} (s : Same H H') (h : Tr K H v t) : Tr K H' v t := Dp.sm s _ _ h
theorem immAll_encs (ts : List Te) : imm.immAll (ts.map Te.enc) = true := by
  induction ts with
  | nil => rfl
  | cons t ts ih => simp only [List.map_cons, imm.immAll, imm_enc, ih, Bool.and_self]
theorem Trs.tx {K : PySem.W.Frag} {H H' : Hp} {vs : List V} {ts : List Te} (s : Tx H H') (h : Trs K H vs ts) : Trs K H' vs ts := Dp.txs s _ _ (immAll_encs ts) h
theorem Tr.tx {K : PySem.W.Frag} {H H' : Hp} {v : V} {t : Te} (s : Tx H H') (h : Tr K H v t) : Tr K H' v t := Dp.tx s _ _ (imm_enc t) h
theorem Trs.app {K : PySem.W.Frag} {H : Hp} {vs us : List V} {ts ss : List Te} (h : Trs K H vs ts) (g : Trs K H us ss) : Trs K H (vs ++ us) (ts ++ ss) := by
  unfold Trs
  rw [List.map_append]
  exact DpAll.app h g
theorem Trs.nil {K : PySem.W.Frag} {H : Hp} : Trs K H [] [] := DpAll.nil
theorem Trs.cons {K : PySem.W.Frag} {H : Hp} {v : V} {vs : List V} {t : Te} {ts : List Te} (h : Tr K H v t) (g : Trs K H vs ts) : Trs K H (v :: vs) (t :: ts) := DpAll.cons h g
theorem Trs.snoc {K : PySem.W.Frag} {H : Hp} {v : V} {vs : List V} {t : Te} {ts : List Te} (g : Trs K H vs ts) (h : Tr K H v t) : Trs K H (vs ++ [v]) (ts ++ [t]) := Trs.app g (.cons h .nil)
/-! ### equal terms -/
mutual
/-- of texts, numbers, tuples -/
def si : PyData → Bool
  | .str _ => true
  | .int _ => true
  | .tuple ds => sis ds
  | _ => false
def sis : List PyData → Bool
  | [] => true
  | d :: ds => si d && sis ds
end
mutual
theorem eqv_eq : ∀ (d e : PyData), si d = true → si e = true → PyData.eqv d e = true → d = e
  | .str x, .str y, _, _, h => by simpa [PyData.eqv] using h
  | .int x, .int y, _, _, h => by simpa [PyData.eqv] using h
  | .tuple ds, .tuple es, h1, h2, h => by rw [eqvs_eq ds es (by simpa [si] using h1) (by simpa [si] using h2) (by simpa [PyData.eqv] using h)]
  | .str _, .int _, _, _, h => by simp [PyData.eqv] at h
  | .str _, .tuple _, _, _, h => by simp [PyData.eqv] at h
  | .int _, .str _, _, _, h => by simp [PyData.eqv] at h
  | .int _, .tuple _, _, _, h => by simp [PyData.eqv] at h
  | .tuple _, .str _, _, _, h => by simp [PyData.eqv] at h
  | .tuple _, .int _, _, _, h => by simp [PyData.eqv] at h
  | .none, _, h, _, _ => by simp [si] at h
  | .bool _, _, h, _, _ => by simp [si] at h
  | .list _, _, h, _, _ => by simp [si] at h
  | .dict _, _, h, _, _ => by simp [si] at h
  | _, .none, _, h, _ => by simp [si] at h
  | _, .bool _, _, h, _ => by simp [si] at h
  | _, .list _, _, h, _ => by simp [si] at h
  | _, .dict _, _, h, _ => by simp [si] at h
theorem eqvs_eq : ∀ (ds es : List PyData), sis ds = true → sis es = true → PyData.eqvAll ds es = true → ds = es
  | [], [], _, _, _ => rfl
  | [], _ :: _, _, _, h => by simp [PyData.eqvAll] at h
  | _ :: _, [], _, _, h => by simp [PyData.eqvAll] at h
  | d :: ds, e :: es, h1, h2, h => by
    simp only [sis, Bool.and_eq_true] at h1 h2
    simp only [PyData.eqvAll, Bool.and_eq_true] at h
    rw [eqv_eq d e h1.1 h2.1 h.1, eqvs_eq ds es h1.2 h2.2 h.2]
end
theorem si_enc (t : Te) : si t.enc = true := by
  induction t <;> simp_all [Te.enc, si, sis]
theorem eqv_true (s t : Te) (h : PyData.eqv s.enc t.enc = true) : s = t := enc_inj (eqv_eq _ _ (si_enc s) (si_enc t) h)
theorem eqv_enc (s t : Te) : PyData.eqv s.enc t.enc = decide (s = t) := by
  by_cases h : s = t
  · rw [h, decide_eq_true rfl]
    exact SeqAt.eqv_refl _ (lay_enc t)
  · rw [decide_eq_false h]
    cases e : PyData.eqv s.enc t.enc with
    | false => rfl
    | true => exact absurd (eqv_true s t e) h
theorem any_enc (ts : List Te) (t : Te) : ((ts.map Te.enc).any fun z => PyData.eqv z t.enc) = decide (t ∈ ts) := by
  induction ts with
  | nil => simp
  | cons u ts ih =>
    rw [List.map_cons, List.any_cons, ih, eqv_enc]
    by_cases h : u = t
    · subst h; simp
    · by_cases g : t ∈ ts
      · simp [h, g]
      · simp [g, h, Ne.symm h]
theorem depth_enc (t : Te) : t.enc.depth ≤ 2 * t.depth := by
  induction t <;> simp_all [Te.enc, Te.depth, PyData.depth, PyData.depthAll] <;> omega
theorem depth_encs {ts : List Te} (h : ∀ t ∈ ts, t.ok) : PyData.depthAll (ts.map Te.enc) ≤ 20 := by
  induction ts with
  | nil => simp [PyData.depthAll]
  | cons t ts ih =>
    have h1 := ih fun u hu => h u (List.mem_cons_of_mem _ hu)
    have h2 := depth_enc t
    have h3 := (h t (List.mem_cons_self ..)).2
    simp only [List.map_cons, PyData.depthAll]
    omega
theorem lay_encs (ts : List Te) : PyData.canLayAll0 (ts.map Te.enc) = true := by
  induction ts with
  | nil => rfl
  | cons t ts ih => simp only [List.map_cons, PyData.canLayAll0, lay_enc, ih, Bool.and_self]
theorem shaped_enc {t : Te} (h : t.ok) : SeqAt.shaped t.enc = true := by
  show (t.enc.canLay0 && decide (t.enc.depth ≤ 64)) = true
  have := depth_enc t
  have := h.2
  rw [lay_enc, decide_eq_true (by omega)]
  rfl
theorem shaped_list {ts : List Te} (h : ∀ t ∈ ts, t.ok) : SeqAt.shaped (.list (ts.map Te.enc)) = true := by
  have := depth_encs h
  show (PyData.canLay0 (.list (ts.map Te.enc)) && decide (PyData.depth (.list (ts.map Te.enc)) ≤ 64)) = true
  rw [Bool.and_eq_true]
  refine ⟨by simp only [PyData.canLay0]; exact lay_encs ts, decide_eq_true ?_⟩
  simp only [PyData.depth]
  omega
theorem shaped_tup {ts : List Te} (h : ∀ t ∈ ts, t.ok) : SeqAt.shaped (.tuple (ts.map Te.enc)) = true := by
  have := depth_encs h
  show (PyData.canLay0 (.tuple (ts.map Te.enc)) && decide (PyData.depth (.tuple (ts.map Te.enc)) ≤ 64)) = true
  rw [Bool.and_eq_true]
  refine ⟨by simp only [PyData.canLay0]; exact lay_encs ts, decide_eq_true ?_⟩
  simp only [PyData.depth]
  omega
/-! ### x in xs of terms -/
def SqA (K : PySem.W.Frag) (H : Hp) (a : Addr) (xs : List V) : Prop := SqL K H a xs ∨ SqT K H a xs
theorem SqA.same {K : PySem.W.Frag} {H H' : Hp} {a : Addr} {xs : List V} (s : Same H H') (h : SqA K H a xs) : SqA K H' a xs := by
  rcases h with h | h
  · exact .inl (s.seq h)
  · exact .inr ((Tx.of s).sqt h)
theorem SqA.l {K : PySem.W.Frag} {H : Hp} {a : Addr} {xs : List V} (h : H a = some (.lst xs)) : SqA K H a xs := .inl (SqL.of h)
section
variable {X : Cx}
def rInT (K : PySem.W.Frag) : R2 := fun x y H Q => ∃ t ts a xs, y = .ref a ∧ SqA K H a xs ∧ Trs K H xs ts ∧ Tr K H x t ∧ t.ok ∧ Q (.bl (decide (t ∈ ts))) H
def rNotInT (K : PySem.W.Frag) : R2 := fun x y H Q => ∃ t ts a xs, y = .ref a ∧ SqA K H a xs ∧ Trs K H xs ts ∧ Tr K H x t ∧ t.ok ∧ Q (.bl (!decide (t ∈ ts))) H
theorem op_inT (hu : X.A.units + 64 < cLine) : OpR X (compareOp .In) (rInT X.K) := by
  intro pins s σ H x y v u Q I rx ry h
  obtain ⟨t, ts, a, xs, rfl, hs, hx, ht, hk, q⟩ := h
  have hm : X.A.units + 1 + min (PyData.depthAll (ts.map Te.enc)) t.enc.depth < cLine := by
    have := depth_enc t
    have := hk.2
    omega
  obtain ⟨as, r1⟩ := Dp.reads I _ x v ht rx
  rw [← any_enc] at q
  rcases hs with hs | hs
  · obtain ⟨bs, r2⟩ := Dp.reads I (.list (ts.map Te.enc)) _ u (.lst hs hx) ry
    exact SeqAt.in_list_reads r2 r1 (lay_encs ts) (lay_enc t) hm ⟨.bl _, H, I, rfl, q⟩
  · obtain ⟨bs, r2⟩ := Dp.reads I (.tuple (ts.map Te.enc)) _ u (.tup hs hx) ry
    exact SeqAt.in_tuple_reads r2 r1 (lay_encs ts) (lay_enc t) hm ⟨.bl _, H, I, rfl, q⟩
theorem op_notInT (hu : X.A.units + 64 < cLine) : OpR X (compareOp .NotIn) (rNotInT X.K) := by
  intro pins s σ H x y v u Q I rx ry h
  obtain ⟨t, ts, a, xs, rfl, hs, hx, ht, hk, q⟩ := h
  have hm : X.A.units + 1 + min (PyData.depthAll (ts.map Te.enc)) t.enc.depth < cLine := by
    have := depth_enc t
    have := hk.2
    omega
  obtain ⟨as, r1⟩ := Dp.reads I _ x v ht rx
  rw [← any_enc] at q
  rcases hs with hs | hs
  · obtain ⟨bs, r2⟩ := Dp.reads I (.list (ts.map Te.enc)) _ u (.lst hs hx) ry
    exact SeqAt.notIn_list_reads r2 r1 (lay_encs ts) (lay_enc t) hm ⟨.bl _, H, I, rfl, q⟩
  · obtain ⟨bs, r2⟩ := Dp.reads I (.tuple (ts.map Te.enc)) _ u (.tup hs hx) ry
    exact SeqAt.notIn_tuple_reads r2 r1 (lay_encs ts) (lay_enc t) hm ⟨.bl _, H, I, rfl, q⟩
end
/-! ### a term as it stands -/
def Te.word : Te → String
  | .s => "name" | .k => "name" | .n => "new" | .own => "own" | .x => "var"
  | .c => "name" | .m => "name" | .k0 => "name" | .k1 => "name" | .k2 => "name" | .k3 => "name"
  | .pair _ _ => "pair" | .lock _ _ => "lock" | .sea _ _ => "seal" | .shut _ _ => "shut" | .print _ => "print" | .pub _ => "pub"
theorem Tr.view {K : PySem.W.Frag} {H : Hp} {v : V} {t : Te} (h : Tr K H v t) : ∃ a us, v = .ref a ∧ SqT K H a (V.str (Str.ofString t.word) :: us) ∧ (t.parts ≠ [] → Trs K H us t.parts) := by
  unfold Tr at h
  cases t <;> simp only [Te.enc] at h <;> (cases h with | @tup a vs ds h1 h2 => cases h2 with | cons h3 h4 => cases h3; exact ⟨_, _, rfl, h1, fun hp => by first | exact h4 | exact absurd rfl hp⟩)
theorem word_ne {t : Te} {w : String} (h : ∀ u : Te, u.word = w → u ≠ t) : t.word ≠ w := fun e => h t e rfl
/-! ### what comes in -/
def takes (S : Te → Prop) : Te → Te → Prop
  | .pair a b, t => t = a ∨ t = b
  | .sea a _, t => t = a
  | .lock a k, t => t = a ∧ S k
  | .shut a k, t => t = a ∧ S k
  | _, _ => False
def makes (S : Te → Prop) (t : Te) : Prop := t = .own ∨ (t.parts ≠ [] ∧ ∀ p ∈ t.parts, S p)
/-- what comes in by one step more -/
def nxt (every : List Te) (S : Te → Prop) (t : Te) : Prop := ¬ S t ∧ ((∃ u, S u ∧ takes S u t) ∨ (t ∈ every ∧ makes S t))
def rnd (known every : List Te) : Nat → Te → Prop
  | 0, t => t ∈ known
  | n + 1, t => rnd known every n t ∨ nxt every (rnd known every n) t
theorem takes_part {S : Te → Prop} {u t : Te} (h : takes S u t) : t ∈ u.parts := by
  cases u <;> simp only [takes] at h <;> simp only [Te.parts, List.mem_cons, List.not_mem_nil, or_false]
  · exact h
  · exact .inl h.1
  · exact .inl h
  · exact .inl h.1
theorem takes_cong {S T : Te → Prop} (h : ∀ t, S t ↔ T t) (u t : Te) : takes S u t ↔ takes T u t := by
  have e : S = T := funext fun t => propext (h t)
  rw [e]
theorem nxt_cong {e1 e2 : List Te} {S T : Te → Prop} (he : ∀ t, t ∈ e1 ↔ t ∈ e2) (h : ∀ t, S t ↔ T t) (t : Te) : nxt e1 S t ↔ nxt e2 T t := by
  have e : S = T := funext fun t => propext (h t)
  rw [e]
  unfold nxt
  rw [he]
theorem rnd_cong {k1 k2 e1 e2 : List Te} (hk : ∀ t, t ∈ k1 ↔ t ∈ k2) (he : ∀ t, t ∈ e1 ↔ t ∈ e2) : ∀ n t, rnd k1 e1 n t ↔ rnd k2 e2 n t := by
  intro n
  induction n with
  | zero => exact hk
  | succ n ih =>
    intro t
    simp only [rnd]
    rw [ih t, nxt_cong he ih t]
theorem rnd_mono {k e : List Te} {m n : Nat} (h : m ≤ n) {t : Te} (r : rnd k e m t) : rnd k e n t := by
  induction n with
  | zero => rw [show m = 0 by omega] at r; exact r
  | succ n ih =>
    by_cases q : m = n + 1
    · rw [← q]; exact r
    · exact .inl (ih (by omega))
theorem rnd_end {k e : List Te} {n : Nat} (h : ∀ t, ¬ nxt e (rnd k e n) t) : ∀ m t, rnd k e m t → rnd k e n t := by
  have go : ∀ m, n ≤ m → ∀ t, rnd k e m t → rnd k e n t := by
    intro m
    induction m with
    | zero => intro hm t r; rw [show n = 0 by omega]; exact r
    | succ m ih =>
      intro hm t r
      by_cases q : n = m + 1
      · rw [q]; exact r
      · have ih' := ih (by omega)
        rcases r with r | r
        · exact ih' t r
        · have e2 : ∀ t, rnd k e m t ↔ rnd k e n t := fun t => ⟨ih' t, rnd_mono (by omega)⟩
          exact absurd ((nxt_cong (fun _ => Iff.rfl) e2 t).mp r) (h t)
  intro m t r
  by_cases q : n ≤ m
  · exact go m q t r
  · exact rnd_mono (by omega) r
theorem rnd_in {k e : List Te} (hk : ∀ t ∈ k, t ∈ e) (hc : ∀ t ∈ e, ∀ p ∈ t.parts, p ∈ e) : ∀ n t, rnd k e n t → t ∈ e := by
  intro n
  induction n with
  | zero => exact hk
  | succ n ih =>
    intro t r
    rcases r with r | ⟨_, ⟨u, hu, ht⟩ | ⟨h, _⟩⟩
    · exact ih t r
    · exact hc u (ih u hu) t (takes_part ht)
    · exact h
/-- the round it comes in -/
theorem rnd_first {k e : List Te} {n : Nat} {t : Te} (r : rnd k e n t) : ∃ m, m ≤ n ∧ rnd k e m t ∧ ∀ j, j < m → ¬ rnd k e j t := by
  induction n with
  | zero => exact ⟨0, Nat.le_refl _, r, fun j h => by omega⟩
  | succ n ih =>
    by_cases q : rnd k e n t
    · obtain ⟨m, h1, h2, h3⟩ := ih q
      exact ⟨m, by omega, h2, h3⟩
    · exact ⟨n + 1, Nat.le_refl _, r, fun j h g => q (rnd_mono (by omega) g)⟩
/-! ### rows: how a term came in -/
inductive How
  | known | own | make | first | second | read | op
def How.str : How → String
  | .known => "known" | .own => "own" | .make => "make" | .first => "first" | .second => "second" | .read => "read" | .op => "open"
def stp (known : List Te) (t : Te) : How → List Te → Prop
  | .known, hs => hs = [] ∧ t ∈ known
  | .own, hs => hs = [] ∧ t = .own
  | .make, hs => hs = t.parts ∧ t.parts ≠ []
  | .first, hs => ∃ b, hs = [.pair t b]
  | .second, hs => ∃ a, hs = [.pair a t]
  | .read, hs => ∃ b, hs = [.sea t b]
  | .op, hs => ∃ k, hs = [.lock t k, k] ∨ hs = [.shut t k, k]
abbrev Row : Type := Te × How × List Te
def howD (h : How) (hs : List Te) : PyData := .tuple [.str (Str.ofString h.str), .tuple (hs.map Te.enc)]
def rowD (r : Row) : PyData := .tuple [r.1.enc, howD r.2.1 r.2.2]
def rts (rows : List Row) : List Te := rows.map (·.1)
def Valid (known : List Te) (rows : List Row) : Prop := ∀ i r, rows[i]? = some r → stp known r.1 r.2.1 r.2.2 ∧ ∀ p ∈ r.2.2, p ∈ rts (rows.take i)
theorem imm_how (h : How) (hs : List Te) : imm (howD h hs) = true := by
  simp only [howD, imm, imm.immAll, immAll_encs, Bool.and_self]
theorem imm_row (r : Row) : imm (rowD r) = true := by
  simp only [rowD, imm, imm.immAll, imm_enc, imm_how, Bool.and_self]
theorem imm_rows (rows : List Row) : imm.immAll (rows.map rowD) = true := by
  induction rows with
  | nil => rfl
  | cons t ts ih => simp only [List.map_cons, imm.immAll, imm_row, ih, Bool.and_self]
theorem stp_len {known : List Te} {t : Te} {h : How} {hs : List Te} (s : stp known t h hs) : hs.length ≤ 2 := by
  cases h <;> simp only [stp] at s
  · rw [s.1]; simp
  · rw [s.1]; simp
  · rw [s.1]; cases t <;> simp [Te.parts]
  · obtain ⟨b, rfl⟩ := s; simp
  · obtain ⟨b, rfl⟩ := s; simp
  · obtain ⟨b, rfl⟩ := s; simp
  · obtain ⟨b, rfl | rfl⟩ := s <;> simp
end WW

set_option maxHeartbeats 4000000
namespace WW
open PySem PySem.Spec PyProof.Rows L2
/-! ### the place in a list -/
noncomputable def ixE (ts : List Te) (t : Te) : Nat := ts.findIdx fun u => decide (u = t)
theorem ixE_lt {ts : List Te} {t : Te} (h : t ∈ ts) : ixE ts t < ts.length := List.findIdx_lt_length_of_exists ⟨t, h, by simp⟩
theorem ixE_at {ts : List Te} {t : Te} (h : t ∈ ts) : ts[ixE ts t]? = some t := by
  have hl := ixE_lt h
  have := List.findIdx_getElem (p := fun u => decide (u = t)) (w := hl)
  rw [List.getElem?_eq_getElem hl]
  exact congrArg some (of_decide_eq_true this)
theorem ixE_inj {ts : List Te} {s t : Te} (hs : s ∈ ts) (ht : t ∈ ts) (e : ixE ts s = ixE ts t) : s = t := by
  have h1 := ixE_at hs
  rw [e, ixE_at ht] at h1
  exact (Option.some.inj h1).symm
theorem ixE_app {ts us : List Te} {t : Te} (h : t ∈ ts) : ixE (ts ++ us) t = ixE ts t := by
  unfold ixE
  rw [List.findIdx_append, if_pos (List.findIdx_lt_length_of_exists ⟨t, h, by simp⟩)]
theorem ixE_new {ts : List Te} {t : Te} (h : t ∉ ts) : ixE (ts ++ [t]) t = ts.length := by
  unfold ixE
  rw [List.findIdx_append]
  have e : ts.findIdx (fun u => decide (u = t)) = ts.length := List.findIdx_eq_length.mpr fun x hx => by simp; rintro rfl; exact h hx
  rw [e, if_neg (Nat.lt_irrefl _)]
  simp
theorem nodup_ix {ts : List Te} (hn : ts.Nodup) {i : Nat} {t : Te} (h : ts[i]? = some t) : ixE ts t = i := by
  obtain ⟨hi, e⟩ := List.getElem?_eq_some_iff.mp h
  have hm : t ∈ ts := List.mem_of_getElem? h
  have h2 := ixE_at hm
  have hl := ixE_lt hm
  rw [List.getElem?_eq_getElem hl] at h2
  have e2 := Option.some.inj h2
  rcases Nat.lt_trichotomy (ixE ts t) i with q | q | q
  · exact absurd (e2.trans e.symm) (List.pairwise_iff_getElem.mp hn _ _ hl hi q)
  · exact q
  · exact absurd (e.trans e2.symm) (List.pairwise_iff_getElem.mp hn _ _ hi hl q)
/-! ### rows, valid -/
theorem rts_len (rows : List Row) : (rts rows).length = rows.length := by unfold rts; rw [List.length_map]
theorem rts_app (a b : List Row) : rts (a ++ b) = rts a ++ rts b := by unfold rts; rw [List.map_append]
theorem rts_take (a : List Row) (i : Nat) : rts (a.take i) = (rts a).take i := by unfold rts; rw [List.map_take]
theorem row_of {rows : List Row} {t : Te} (h : t ∈ rts rows) : ∃ hw hs, (t, hw, hs) ∈ rows := by
  obtain ⟨⟨u, hw, hs⟩, hr, rfl⟩ := List.mem_map.mp h
  exact ⟨hw, hs, hr⟩
theorem rts_mem {rows : List Row} {r : Row} (h : r ∈ rows) : r.1 ∈ rts rows := List.mem_map_of_mem h
/-- what a row hangs on stands ahead of it -/
theorem Valid.lt {known : List Te} {rows : List Row} (v : Valid known rows) (hn : (rts rows).Nodup) {r : Row} (h : r ∈ rows) {p : Te} (hp : p ∈ r.2.2) : p ∈ rts rows ∧ ixE (rts rows) p < ixE (rts rows) r.1 := by
  obtain ⟨i, hi⟩ := List.mem_iff_getElem?.mp h
  obtain ⟨_, h2⟩ := v i r hi
  have h3 := h2 p hp
  rw [rts_take] at h3
  have h4 : p ∈ rts rows := List.mem_of_mem_take h3
  have e1 : ixE (rts rows) r.1 = i := nodup_ix hn (by unfold rts; rw [List.getElem?_map, hi]; rfl)
  refine ⟨h4, ?_⟩
  rw [e1]
  obtain ⟨j, hj, e⟩ := List.getElem_of_mem h3
  rw [List.length_take] at hj
  rw [List.getElem_take] at e
  have : ixE (rts rows) p = j := nodup_ix hn (by rw [List.getElem?_eq_getElem (by omega), e])
  omega
theorem Valid.stp {known : List Te} {rows : List Row} (v : Valid known rows) {r : Row} (h : r ∈ rows) : stp known r.1 r.2.1 r.2.2 := by
  obtain ⟨i, hi⟩ := List.mem_iff_getElem?.mp h
  exact (v i r hi).1
theorem Valid.snoc {known : List Te} {rows : List Row} (v : Valid known rows) {r : Row} (h1 : WW.stp known r.1 r.2.1 r.2.2) (h2 : ∀ p ∈ r.2.2, p ∈ rts rows) : Valid known (rows ++ [r]) := by
  intro i q hq
  by_cases hi : i < rows.length
  · rw [List.getElem?_append_left hi] at hq
    obtain ⟨a, b⟩ := v i q hq
    refine ⟨a, fun p hp => ?_⟩
    rw [List.take_append_of_le_length (by omega)]
    exact b p hp
  · have hl : i < (rows ++ [r]).length := (List.getElem?_eq_some_iff.mp hq).1
    rw [List.length_append, List.length_singleton] at hl
    have e : i = rows.length := by omega
    subst e
    rw [List.getElem?_append_right (Nat.le_refl _), Nat.sub_self] at hq
    simp at hq
    subst hq
    refine ⟨h1, fun p hp => ?_⟩
    rw [List.take_append_of_le_length (Nat.le_refl _), List.take_length]
    exact h2 p hp
theorem Valid.nil {known : List Te} : Valid known [] := fun i r h => by simp at h
theorem Valid.app {known : List Te} {rows more : List Row} (v : Valid known rows) (h : ∀ r ∈ more, WW.stp known r.1 r.2.1 r.2.2 ∧ ∀ p ∈ r.2.2, p ∈ rts rows) : Valid known (rows ++ more) := by
  have gen : ∀ (more acc : List Row), (∀ t ∈ rts rows, t ∈ rts acc) → Valid known acc → (∀ r ∈ more, WW.stp known r.1 r.2.1 r.2.2 ∧ ∀ p ∈ r.2.2, p ∈ rts rows) → Valid known (acc ++ more) := by
    intro more
    induction more with
    | nil => intro acc _ hv _; rw [List.append_nil]; exact hv
    | cons r more ih =>
      intro acc hsub hv hm
      have h0 := hm r (List.mem_cons_self ..)
      have := ih (acc ++ [r]) (fun t ht => by rw [rts_app]; exact List.mem_append_left _ (hsub t ht)) (hv.snoc h0.1 fun p hp => hsub p (h0.2 p hp)) (fun q hq => hm q (List.mem_cons_of_mem _ hq))
      rwa [List.append_assoc] at this
  exact gen more rows (fun _ h => h) v h
/-! ### lines_to: what waits -/
inductive Stk (C : Nat) (ix : Te → Nat) : Nat → List Te → Prop
  | nil (n : Nat) : Stk C ix n []
  | cons {n m : Nat} {t : Te} {l : List Te} : ix t < n → n ≤ m → l.length + 1 + 2 * n ≤ C → Stk C ix m l → Stk C ix n (t :: l)
theorem Stk.tail {C : Nat} {ix : Te → Nat} {n : Nat} {t : Te} {l : List Te} (h : Stk C ix n (t :: l)) : ∃ m, Stk C ix m l := by
  cases h with
  | cons _ _ _ h => exact ⟨_, h⟩
theorem Stk.len {C : Nat} {ix : Te → Nat} {n : Nat} {l : List Te} (h : Stk C ix n l) : l.length ≤ C := by
  cases h with
  | nil => simp
  | cons _ _ h _ => rw [List.length_cons]; omega
theorem Stk.push {C : Nat} {ix : Te → Nat} {n : Nat} {t : Te} {l os : List Te} (h : Stk C ix n (t :: l)) (ho : os.length ≤ 2) (hi : ∀ o ∈ os, ix o < ix t) : ∃ n', Stk C ix n' (os ++ t :: l) := by
  have h' := h
  cases h with
  | cons h1 h2 h3 h4 =>
    match os, ho with
    | [], _ => exact ⟨_, h'⟩
    | [a], _ =>
      have := hi a (by simp)
      exact ⟨ix t, .cons this (Nat.le_of_lt h1) (by show (t :: l).length + 1 + 2 * ix t ≤ C; rw [List.length_cons]; omega) h'⟩
    | [a, b], _ =>
      have ha := hi a (by simp)
      have hb := hi b (by simp)
      refine ⟨ix t, .cons ha (Nat.le_refl _) ?_ (.cons hb (Nat.le_of_lt h1) (by show (t :: l).length + 1 + 2 * ix t ≤ C; rw [List.length_cons]; omega) h')⟩
      show (b :: t :: l).length + 1 + 2 * ix t ≤ C
      rw [List.length_cons, List.length_cons]
      omega
/-- what is on the way -/
structure LS (rows : List Row) (known : List Te) (wanted : Te) (l : List Te) (lines : List Row) : Prop where
  nd : (rts lines).Nodup
  val : Valid known lines
  sub : ∀ r ∈ lines, r ∈ rows
  stk : ∃ n, Stk (1 + 2 * rows.length) (ixE (rts rows)) n l
  inn : ∀ t ∈ l, t ∈ rts rows
  bot : (∃ l', l = l' ++ [wanted] ∧ (∀ t ∈ l', ixE (rts rows) t < ixE (rts rows) wanted) ∧ wanted ∉ rts lines) ∨ (l = [] ∧ ∃ ls hw hs, lines = ls ++ [(wanted, hw, hs)])
/-- the measure -/
noncomputable def topM (R : Nat) (ix : Te → Nat) (pl l : List Te) : Nat := match l with
  | [] => 0
  | t :: r => if t ∈ pl then R + (t :: r).length else ix t
noncomputable def lsM (rows : List Row) (l : List Te) (lines : List Row) : Nat := (rows.length - lines.length) * (4 * rows.length + 10) + topM rows.length (ixE (rts rows)) (rts lines) l
theorem topM_le {rows : List Row} {pl l : List Te} (hi : ∀ t ∈ l, t ∈ rts rows) (hl : l.length ≤ 1 + 2 * rows.length) : topM rows.length (ixE (rts rows)) pl l ≤ 3 * rows.length + 1 := by
  unfold topM
  split
  · omega
  · rename_i t r
    split
    · omega
    · have := ixE_lt (hi t (List.mem_cons_self ..))
      rw [rts_len] at this
      omega
section
variable {rows : List Row} {known : List Te} {wanted : Te} {l : List Te} {lines : List Row} {t : Te}
theorem LS.len (g : LS rows known wanted l lines) : l.length ≤ 1 + 2 * rows.length := by
  obtain ⟨n, h⟩ := g.stk
  exact h.len
theorem nodup_len : ∀ {a b : List Te}, a.Nodup → (∀ t ∈ a, t ∈ b) → a.length ≤ b.length
  | [], _, _, _ => Nat.zero_le _
  | t :: a, b, hn, h => by
    rw [List.nodup_cons] at hn
    obtain ⟨b1, b2, rfl⟩ := List.append_of_mem (h t (List.mem_cons_self ..))
    have := nodup_len (b := b1 ++ b2) hn.2 fun u hu => by
      have := h u (List.mem_cons_of_mem _ hu)
      rcases List.mem_append.mp this with q | q
      · exact List.mem_append_left _ q
      · rcases List.mem_cons.mp q with rfl | q
        · exact absurd hu hn.1
        · exact List.mem_append_right _ q
    simp only [List.length_append, List.length_cons] at this ⊢
    omega
theorem sub_len {a b : List Row} (hn : (rts a).Nodup) (h : ∀ r ∈ a, r ∈ b) : a.length ≤ b.length := by
  rw [← rts_len a, ← rts_len b]
  exact nodup_len hn fun t ht => by
    obtain ⟨hw, hs, hr⟩ := row_of ht
    exact rts_mem (h _ hr)
theorem LS.lines_le (g : LS rows known wanted l lines) : lines.length ≤ rows.length := sub_len g.nd g.sub
/-- the top stands already -/
theorem LS.pop (g : LS rows known wanted (t :: l) lines) (ht : t ∈ rts lines) : LS rows known wanted l lines ∧ lsM rows l lines < lsM rows (t :: l) lines := by
  refine ⟨⟨g.nd, g.val, g.sub, ?_, fun u hu => g.inn u (List.mem_cons_of_mem _ hu), ?_⟩, ?_⟩
  · obtain ⟨n, h⟩ := g.stk
    exact h.tail
  · rcases g.bot with ⟨l', e, h1, h2⟩ | ⟨e, _⟩
    · cases l' with
      | nil =>
        simp only [List.nil_append, List.cons.injEq] at e
        exact absurd (e.1 ▸ ht) h2
      | cons a l' =>
        simp only [List.cons_append, List.cons.injEq] at e
        exact .inl ⟨l', e.2, fun u hu => h1 u (List.mem_cons_of_mem _ hu), h2⟩
    · cases e
  · unfold lsM
    have : topM rows.length (ixE (rts rows)) (rts lines) l < topM rows.length (ixE (rts rows)) (rts lines) (t :: l) := by
      show _ < (if t ∈ rts lines then rows.length + (t :: l).length else ixE (rts rows) t)
      rw [if_pos ht]
      unfold topM
      split
      · simp
      · rename_i u r
        split
        · simp only [List.length_cons]; omega
        · have := ixE_lt (g.inn u (by simp))
          rw [rts_len] at this
          omega
    omega
/-- some that it hangs on are open -/
theorem LS.push (g : LS rows known wanted (t :: l) lines) (ht : t ∉ rts lines) (hn : (rts rows).Nodup) (hv : Valid known rows) {hw : How} {hs os : List Te} (hr : (t, hw, hs) ∈ rows) (ho : os = hs.filter fun p => !decide (p ∈ rts lines)) (hne : os ≠ []) :
    LS rows known wanted (os ++ t :: l) lines ∧ lsM rows (os ++ t :: l) lines < lsM rows (t :: l) lines := by
  have hlt : ∀ o ∈ os, o ∈ rts rows ∧ ixE (rts rows) o < ixE (rts rows) t := fun o h => by
    subst ho
    exact hv.lt hn hr (List.mem_filter.mp h).1
  have hol : os.length ≤ 2 := by
    subst ho
    exact Nat.le_trans (List.length_filter_le ..) (stp_len (hv.stp hr))
  refine ⟨⟨g.nd, g.val, g.sub, ?_, fun u hu => ?_, ?_⟩, ?_⟩
  · obtain ⟨n, h⟩ := g.stk
    exact h.push hol fun o h => (hlt o h).2
  · rcases List.mem_append.mp hu with h | h
    · exact (hlt u h).1
    · exact g.inn u h
  · rcases g.bot with ⟨l', e, h1, h2⟩ | ⟨e, _⟩
    · refine .inl ⟨os ++ l', by rw [e, List.append_assoc], fun u hu => ?_, h2⟩
      rcases List.mem_append.mp hu with h | h
      · have h3 := (hlt u h).2
        cases l' with
        | nil =>
          simp only [List.nil_append, List.cons.injEq] at e
          rw [← e.1]; exact h3
        | cons a l' =>
          simp only [List.cons_append, List.cons.injEq] at e
          have := h1 a (List.mem_cons_self ..)
          rw [← e.1] at this
          omega
      · exact h1 u h
    · cases e
  · unfold lsM
    have : topM rows.length (ixE (rts rows)) (rts lines) (os ++ t :: l) < topM rows.length (ixE (rts rows)) (rts lines) (t :: l) := by
      show _ < (if t ∈ rts lines then rows.length + (t :: l).length else ixE (rts rows) t)
      rw [if_neg ht]
      cases os with
      | nil => exact absurd rfl hne
      | cons o os' =>
        have h1 := (hlt o (List.mem_cons_self ..)).2
        have h2 : o ∉ rts lines := by
          have : o ∈ hs.filter fun p => !decide (p ∈ rts lines) := ho ▸ List.mem_cons_self ..
          simpa using (List.mem_filter.mp this).2
        show (if o ∈ rts lines then _ else _) < _
        rw [if_neg h2]
        exact h1
    omega
/-- the top comes in -/
theorem LS.put (g : LS rows known wanted (t :: l) lines) (ht : t ∉ rts lines) (hn : (rts rows).Nodup) (hv : Valid known rows) {hw : How} {hs : List Te} (hr : (t, hw, hs) ∈ rows) (ha : ∀ p ∈ hs, p ∈ rts lines) :
    LS rows known wanted l (lines ++ [(t, hw, hs)]) ∧ lsM rows l (lines ++ [(t, hw, hs)]) < lsM rows (t :: l) lines := by
  have hsub : ∀ r ∈ lines ++ [(t, hw, hs)], r ∈ rows := fun r h => by
    rcases List.mem_append.mp h with h | h
    · exact g.sub r h
    · rw [List.mem_singleton.mp h]; exact hr
  have hnd : (rts (lines ++ [(t, hw, hs)])).Nodup := by
    rw [rts_app]
    exact List.nodup_append.mpr ⟨g.nd, by simp [rts], by
      intro a ha b hb e
      simp only [rts, List.map_cons, List.map_nil, List.mem_singleton] at hb
      subst hb; subst e
      exact ht ha⟩
  have hinn : ∀ u ∈ l, u ∈ rts rows := fun u hu => g.inn u (List.mem_cons_of_mem _ hu)
  have hstk : ∃ n, Stk (1 + 2 * rows.length) (ixE (rts rows)) n l := by
    obtain ⟨n, h⟩ := g.stk
    exact h.tail
  refine ⟨⟨hnd, g.val.snoc (hv.stp hr) ha, hsub, hstk, hinn, ?_⟩, ?_⟩
  · rcases g.bot with ⟨l', e, h1, h2⟩ | ⟨e, _⟩
    · cases l' with
      | nil =>
        simp only [List.nil_append, List.cons.injEq] at e
        refine .inr ⟨e.2, lines, hw, hs, by rw [e.1]⟩
      | cons a l' =>
        simp only [List.cons_append, List.cons.injEq] at e
        refine .inl ⟨l', e.2, fun u hu => h1 u (List.mem_cons_of_mem _ hu), ?_⟩
        rw [rts_app]
        intro h
        rcases List.mem_append.mp h with h | h
        · exact h2 h
        · simp only [rts, List.map_cons, List.map_nil, List.mem_singleton] at h
          have := h1 a (List.mem_cons_self ..)
          rw [← e.1, h] at this
          exact Nat.lt_irrefl _ this
    · cases e
  · have hl1 := sub_len hnd hsub
    rw [List.length_append, List.length_singleton] at hl1
    obtain ⟨n, hk⟩ := hstk
    have h1 := topM_le (pl := rts (lines ++ [(t, hw, hs)])) hinn hk.len
    unfold lsM
    rw [List.length_append, List.length_singleton]
    have h2 : (rows.length - lines.length) * (4 * rows.length + 10) = (rows.length - (lines.length + 1)) * (4 * rows.length + 10) + (4 * rows.length + 10) := by
      rw [← Nat.succ_mul]
      congr 1
      omega
    rw [h2]
    omega
end
theorem LS.start {rows : List Row} {known : List Te} {wanted : Te} (h : wanted ∈ rts rows) : LS rows known wanted [wanted] [] := by
  refine ⟨List.nodup_nil, Valid.nil, (fun _ h => nomatch h), ⟨rows.length, .cons ?_ (Nat.le_refl _) ?_ (.nil _)⟩, fun t ht => by rw [List.mem_singleton.mp ht]; exact h, .inl ⟨[], rfl, (fun _ h => nomatch h), (fun h => nomatch h)⟩⟩
  · have := ixE_lt h
    rwa [rts_len] at this
  · simp only [List.length_nil]
    omega
/-! ### a line as data -/
noncomputable def lineD (pl : List Te) (r : Row) : PyData := .tuple [.str (Str.ofString r.2.1.str), r.1.enc, .tuple (r.2.2.map fun p => .int ((ixE pl p : Nat) : Int))]
theorem lineD_app {pl us : List Te} {r : Row} (h : ∀ p ∈ r.2.2, p ∈ pl) : lineD (pl ++ us) r = lineD pl r := by
  unfold lineD
  have e : (r.2.2.map fun p => PyData.int ((ixE (pl ++ us) p : Nat) : Int)) = r.2.2.map fun p => PyData.int ((ixE pl p : Nat) : Int) := by
    apply List.map_congr_left
    intro p hp
    rw [ixE_app (h p hp)]
  rw [e]
theorem Valid.inn {known : List Te} {rows : List Row} (v : Valid known rows) {r : Row} (h : r ∈ rows) : ∀ p ∈ r.2.2, p ∈ rts rows := by
  obtain ⟨i, hi⟩ := List.mem_iff_getElem?.mp h
  intro p hp
  have := (v i r hi).2 p hp
  rw [rts_take] at this
  exact List.mem_of_mem_take this
theorem linesD_snoc {known : List Te} {lines : List Row} {r : Row} (v : Valid known lines) (h : ∀ p ∈ r.2.2, p ∈ rts lines) : (lines ++ [r]).map (lineD (rts (lines ++ [r]))) = lines.map (lineD (rts lines)) ++ [lineD (rts lines) r] := by
  rw [List.map_append, rts_app]
  congr 1
  · apply List.map_congr_left
    intro q hq
    exact lineD_app (v.inn hq)
  · simp only [List.map_cons, List.map_nil]
    rw [lineD_app h]
theorem imm_line (pl : List Te) (r : Row) : imm (lineD pl r) = true := by
  have : ∀ hs : List Te, imm.immAll (hs.map fun p => PyData.int ((ixE pl p : Nat) : Int)) = true := by
    intro hs
    induction hs with
    | nil => rfl
    | cons t ts ih => simp only [List.map_cons, imm.immAll, imm, ih, Bool.and_self]
  simp only [lineD, imm, imm.immAll, imm_enc, this, Bool.and_self]
theorem imm_lines (pl : List Te) (rows : List Row) : imm.immAll (rows.map (lineD pl)) = true := by
  induction rows with
  | nil => rfl
  | cons t ts ih => simp only [List.map_cons, imm.immAll, imm_line, ih, Bool.and_self]
end WW

set_option maxHeartbeats 4000000
namespace WW
open PySem PySem.Spec PyProof.Rows L2
local macro_rules | `(tactic| walk_at "x") => `(tactic| simp only [tSeq, tNext, tAsg, gName, tRet, tRetN, tIfS, tOp, tUn, rI, rI0, rU, tTest, tB, tAnd, tOr, tNot, tAndV, tOrV, tNotV, tIf, tCons, tNil, tTup, tLst, tCall, tCallS, tMeth, tMake, tFld, sFld, tBM, tBM0, tCB, tSl, tPart, tNoPart, tDrop, tPar, tPar3, tAug, ipI, gTup, gCons, gNil, gSub, rSetL, rAppend, rPop, rIxL, rIxS, rIxT, rEq, rNe, tChain, tNever, tThen, tVar, tC, L2.start, List.map_cons, List.map_nil, List.length_cons, List.length_nil, List.replicate_succ, List.replicate_zero, List.append_nil, List.nil_append, List.cons_append, Nat.reduceAdd, Nat.reduceSub, Nat.add_zero, Nat.zero_add, Nat.sub_zero, Nat.sub_self,
  List.getElem?_cons_zero, List.getElem?_cons_succ, Option.some.injEq, exists_eq_left', exists_eq_left, exists_eq', exists_eq, exists_and_left, List.set_cons_zero, List.set_cons_succ, V.int.injEq, V.bl.injEq, V.str.injEq, V.ref.injEq, V.ty.injEq, List.cons.injEq, and_true, true_and, and_assoc, if_true, if_false, Bool.false_eq_true, reduceCtorEq, false_and, and_false, exists_false, false_or, or_false, Bool.not_true, Bool.not_false, decide_eq_true_eq, ite_true, ite_false, WE, cxOf_K, cxOf_mg, rSlS, scal, wipe, mem_low, mem_dig, mem_brk, mem_brk4, sgn_inj, Bool.decide_eq_true])

/-- a dict comprehension over a walk -/
theorem dc_it {J : It} {n : Nat} {G : Hp → Prop} {Y : Nat → Hp → V → Hp → Prop} (w : Walk J n G Y) {g : TG} {tt : TT} {tk tv : TE} {vs : List Nat} {σ : L2.St} {H1 : Hp} {D : Addr} {Qd : Hp → Prop} (Pv : Nat → Hp → Prop) (h0 : Pv 0 (upd H1 D (.dK []))) (hG : ∀ i H, i ≤ n → Pv i H → G H)
    (hs : ∀ i x H H', i < n → Pv i H → Y i H x H' → g x (wipe σ vs) H' fun σ2 H2 => wipe σ2 vs = wipe σ vs ∧ tt σ2 H2 fun b H3 =>
      if b = true then tk σ2 H3 fun y H4 => tv σ2 H4 fun z H5 => ∃ kvs k, y = kV k ∧ H5 D = some (.dK kvs) ∧ kvs.length < sizeLine ∧ Pv (i + 1) (upd H5 D (.dK (putK kvs k z))) else Pv (i + 1) H3) (hd : ∀ H, Pv n H → Qd H) :
    ∃ W : Nat → Nat → Hp → Prop, (∃ m, W 0 m (upd H1 D (.dK []))) ∧ ∀ i m H, W i m H →
      (J.stop i H ∧ Qd H) ∨ (J.go i H ∧ ∃ Nx : Hp → Prop, (∀ H', Nx H' → ∃ m', m' < m ∧ W (i + 1) m' H') ∧ ∀ x H', J.yld i H x H' → g x (wipe σ vs) H' fun σ2 H2 => wipe σ2 vs = wipe σ vs ∧ tt σ2 H2 fun b H3 =>
        if b = true then tk σ2 H3 fun y H4 => tv σ2 H4 fun z H5 => ∃ kvs k, y = kV k ∧ H5 D = some (.dK kvs) ∧ kvs.length < sizeLine ∧ Nx (upd H5 D (.dK (putK kvs k z))) else Nx H3) := by
  refine ⟨fun i m H => m = n - i ∧ i ≤ n ∧ Pv i H, ⟨n, by simp, Nat.zero_le _, h0⟩, ?_⟩
  rintro i m H ⟨rfl, hi, p⟩
  have q := hG i H hi p
  by_cases hlt : i < n
  · refine .inr ⟨w.goes i H hlt q, Pv (i + 1), fun H' p' => ⟨n - (i + 1), by omega, rfl, hlt, p'⟩, fun x H' y => hs i x H H' hlt p (w.yields i H x H' hlt q y)⟩
  · have e : i = n := by omega
    subst e
    exact .inl ⟨w.stops H q, hd H p⟩
/-- a list or a tuple walked -/
theorem any_walk {K : PySem.W.Frag} {H : Hp} {a : Addr} {xs : List V} (h : SqA K H a xs) : ∃ J G, Walk J xs.length G (YAt xs) ∧ (∀ (te : TE) (σ : L2.St) (H0 : Hp) (R : It → Hp → Prop), Same H H0 → (∀ R' : VK, R' (.ref a) H0 → te σ H0 R') → R J H0 → iAny K te σ H0 R) ∧ ∀ H', Same H H' → G H' := by
  rcases h with h | h
  · exact ⟨_, _, walk_list, fun te σ H0 R s ht hR => ht _ ⟨a, rfl, .inl ⟨⟨_, s.seq h⟩, hR⟩⟩, fun H' s => s.seq h⟩
  · exact ⟨_, _, walk_tup, fun te σ H0 R s ht hR => ht _ ⟨a, rfl, .inr ⟨⟨_, (Tx.of s).sqt h⟩, hR⟩⟩, fun H' s => (Tx.of s).sqt h⟩
/-- each once, in the order of the first -/
noncomputable def dedup : List Te → List Te := fun ts => ts.foldl (fun acc t => if t ∈ acc then acc else acc ++ [t]) []
theorem dedup_snoc (ts : List Te) (t : Te) : dedup (ts ++ [t]) = if t ∈ dedup ts then dedup ts else dedup ts ++ [t] := by
  unfold dedup
  rw [List.foldl_append]
  rfl
theorem dedup_mem (ts : List Te) (t : Te) : t ∈ dedup ts ↔ t ∈ ts := by
  have gen : ∀ (us : List Te) (acc : List Te), t ∈ us.foldl (fun acc t => if t ∈ acc then acc else acc ++ [t]) acc ↔ t ∈ acc ∨ t ∈ us := by
    intro us
    induction us with
    | nil => intro acc; simp
    | cons u us ih =>
      intro acc
      rw [List.foldl_cons, ih]
      by_cases h : u ∈ acc
      · rw [if_pos h, List.mem_cons]
        constructor
        · rintro (q | q)
          · exact .inl q
          · exact .inr (.inr q)
        · rintro (q | rfl | q)
          · exact .inl q
          · exact .inl h
          · exact .inr q
      · rw [if_neg h, List.mem_append, List.mem_singleton, List.mem_cons, or_assoc]
  have := gen ts []
  simpa [dedup] using this
theorem dedup_nodup (ts : List Te) : (dedup ts).Nodup := by
  have gen : ∀ (us : List Te) (acc : List Te), acc.Nodup → (us.foldl (fun acc t => if t ∈ acc then acc else acc ++ [t]) acc).Nodup := by
    intro us
    induction us with
    | nil => intro acc h; exact h
    | cons u us ih =>
      intro acc h
      rw [List.foldl_cons]
      apply ih
      by_cases q : u ∈ acc
      · rw [if_pos q]; exact h
      · rw [if_neg q]
        exact List.nodup_append.mpr ⟨h, by simp, by simp; intro a ha e; exact q (e ▸ ha)⟩
  exact gen ts [] List.nodup_nil
theorem dedup_len (ts : List Te) : (dedup ts).length ≤ ts.length := by
  have gen : ∀ (us : List Te) (acc : List Te), (us.foldl (fun acc t => if t ∈ acc then acc else acc ++ [t]) acc).length ≤ acc.length + us.length := by
    intro us
    induction us with
    | nil => intro acc; simp
    | cons u us ih =>
      intro acc
      rw [List.foldl_cons]
      refine Nat.le_trans (ih _) ?_
      split <;> simp <;> omega
  simpa [dedup] using gen ts []
/-- a key that is there -/
theorem dkE_map : ∀ {ts : List Te} {vs : List V} {t : Te} {i : Nat} (v : V), ts.Nodup → ts.length = vs.length → ts[i]? = some t → (dkE ts vs).map (fun kv => if kv.1 = kE t then (kv.1, v) else kv) = dkE ts (vs.set i v)
  | [], _, _, _, _, _, _, h => by simp at h
  | _ :: _, [], _, _, _, _, h, _ => by simp at h
  | u :: ts, w :: vs, t, 0, v, hn, _, h => by
    simp at h
    subst h
    rw [List.nodup_cons] at hn
    simp only [dkE, List.set_cons_zero, List.map_cons, if_true]
    congr 1
    have gen : ∀ (ts : List Te) (vs : List V), u ∉ ts → (dkE ts vs).map (fun kv => if kv.1 = kE u then (kv.1, v) else kv) = dkE ts vs := by
      intro ts
      induction ts with
      | nil => intro vs _; cases vs <;> rfl
      | cons a ts ih =>
        intro vs h
        cases vs with
        | nil => rfl
        | cons b vs =>
          simp only [dkE, List.map_cons]
          rw [if_neg (fun e => h (by rw [← kE_inj e]; exact List.mem_cons_self ..)), ih vs fun q => h (List.mem_cons_of_mem _ q)]
    exact gen ts vs hn.1
  | u :: ts, w :: vs, t, i + 1, v, hn, hl, h => by
    simp at h
    rw [List.nodup_cons] at hn
    have ne : kE u ≠ kE t := fun e => hn.1 (by rw [kE_inj e]; exact List.mem_of_getElem? h)
    simp only [dkE, List.set_cons_succ, List.map_cons]
    rw [if_neg ne, dkE_map v hn.2 (by simpa using hl) h]
theorem dkE_put_old {ts : List Te} {vs : List V} {t : Te} {i : Nat} (v : V) (hn : ts.Nodup) (hl : ts.length = vs.length) (h : ts[i]? = some t) : putK (dkE ts vs) (kE t) v = dkE ts (vs.set i v) := by
  have ha : ((dkE ts vs).any fun kv => decide (kv.1 = kE t)) = true := by
    have := dkE_has hl hn t
    rw [decide_eq_true (List.mem_of_getElem? h)] at this
    unfold valV at this
    cases e : (dkE ts vs).find? fun kv => decide (kv.1 = kE t) with
    | none => rw [e] at this; cases this
    | some q =>
      have h3 : decide (q.1 = kE t) = true := List.find?_some (p := fun kv : Key × V => decide (kv.1 = kE t)) e
      exact List.any_eq_true.mpr ⟨q, List.mem_of_find?_eq_some e, h3⟩
  unfold putK
  rw [if_pos ha]
  exact dkE_map v hn hl h
/-- the lines of a dict: term, how it came in -/
theorem new_tup {K : PySem.W.Frag} {H : Hp} {p : Addr} {vs : List V} {ds : List PyData} (hp : H p = none) (h : DpAll K H vs ds) : Dp K (upd H p (.tup vs)) (.ref p) (.tuple ds) := .tup (SqT.of upd_same) (Dp.sms (Same.new hp) _ _ h)
theorem DpAll.set {K : PySem.W.Frag} {H : Hp} {d : PyData} {v : V} : ∀ {vs : List V} {ds : List PyData} {i : Nat}, DpAll K H vs ds → Dp K H v d → ds[i]? = some d → DpAll K H (vs.set i v) ds := by
  intro vs ds
  induction ds generalizing vs with
  | nil => intro i _ _ h; simp at h
  | cons c ds ih =>
    intro i h hv e
    cases h with
    | cons h1 h2 =>
      cases i with
      | zero => simp at e; subst e; exact .cons hv h2
      | succ i => exact .cons h1 (ih h2 hv (by simpa using e))
structure KAt (K : PySem.W.Frag) (H : Hp) (k D : Addr) (rows : List Row) : Prop where
  ex : ∃ dx vs, H k = some (.ins (He.ga K "Kept") dx [("rows", .ref D)]) ∧ H D = some (.dK (dkE (rts rows) vs)) ∧ DpAll K H vs (rows.map rowD)
  nd : (rts rows).Nodup
  ok : ∀ t ∈ rts rows, t.ok
  ln : rows.length ≤ 1000
section
variable {K : PySem.W.Frag} {H H' : Hp} {k D : Addr} {rows : List Row}
theorem KAt.same (g : KAt K H k D rows) (s : Same H H') : KAt K H' k D rows := by
  obtain ⟨⟨dx, vs, h1, h2, h3⟩, nd, ok, ln⟩ := g
  exact ⟨⟨dx, vs, s _ _ h1, s _ _ h2, Dp.sms s _ _ h3⟩, nd, ok, ln⟩
theorem KAt.ne (g : KAt K H k D rows) : k ≠ D := by
  rintro rfl
  obtain ⟨⟨dx, vs, h1, h2, h3⟩, nd, ok, ln⟩ := g
  rw [h1] at h2
  cases h2
theorem KAt.has (g : KAt K H k D rows) : ∃ kvs, H D = some (.dK kvs) := by
  obtain ⟨⟨dx, vs, h1, h2, h3⟩, nd, ok, ln⟩ := g
  exact ⟨_, h2⟩
end
/-- but for D -/
def Off (D : Addr) (H H' : Hp) : Prop := ∀ a o, a ≠ D → H a = some o → H' a = some o
theorem Off.same {D : Addr} {B H H' : Hp} (s : Same B H) (h : B D = none) (o : Off D H H') : Same B H' := fun a u e => o a u (ne_of_none e h) (s a u e)
theorem Off.tx {D : Addr} {H H' : Hp} {kvs : List (Key × V)} (o : Off D H H') (h : H D = some (.dK kvs)) : Tx H H' := fun a xs => ⟨fun e => o a _ (fun q => by rw [q, h] at e; cases e) e, fun u e => o a _ (fun q => by rw [q, h] at e; cases e) e⟩
theorem Off.upd {D : Addr} {H : Hp} {u : HO} : Off D H (upd H D u) := fun a o n e => by rw [upd_ne n]; exact e
theorem Off.of {D : Addr} {H H' : Hp} (s : Same H H') : Off D H H' := fun a o _ e => s a o e
theorem Off.trans {D : Addr} {H H1 H2 : Hp} (a : Off D H H1) (b : Off D H1 H2) : Off D H H2 := fun p o n e => b p o n (a p o n e)
noncomputable def knownRows (ts : List Te) : List Row := (dedup ts).map fun t => (t, .known, [])
theorem rts_known (ts : List Te) : rts (knownRows ts) = dedup ts := by
  unfold rts knownRows
  rw [List.map_map]
  exact List.map_id _
def spKInit (K : PySem.W.Frag) : Sp := fun vs H Q _ => ∃ r dx a xs ts, vs = [.ref r, .ref a] ∧ H r = some (.ins (He.ga K "Kept") dx []) ∧ SqA K H a xs ∧ Trs K H xs ts ∧ (∀ t ∈ ts, t.ok) ∧ ts.length ≤ 1000 ∧
  ∀ D H', H D = none → Off r H H' → KAt K H' r D (knownRows ts) → Q .non H'
def spKHas (K : PySem.W.Frag) : Sp := fun vs H Q _ => ∃ k D rows x t, vs = [.ref k, x] ∧ KAt K H k D rows ∧ Tr K H x t ∧ t.ok ∧ ∀ H', Same H H' → Q (.bl (decide (t ∈ rts rows))) H'
def spKPut (K : PySem.W.Frag) : Sp := fun vs H Q _ => ∃ k D rows x y t h hs, vs = [.ref k, x, y] ∧ KAt K H k D rows ∧ Tr K H x t ∧ t.ok ∧ Dp K H y (howD h hs) ∧ t ∉ rts rows ∧ rows.length < 1000 ∧ ∀ H', Off D H H' → KAt K H' k D (rows ++ [(t, h, hs)]) → Q .non H'
def spKHow (K : PySem.W.Frag) : Sp := fun vs H Q _ => ∃ k D rows x t h hs, vs = [.ref k, x] ∧ KAt K H k D rows ∧ Tr K H x t ∧ (t, h, hs) ∈ rows ∧ ∀ v H', Same H H' → Dp K H' v (howD h hs) → Q v H'
def spKTerms (K : PySem.W.Frag) : Sp := fun vs H Q _ => ∃ k D rows, vs = [.ref k] ∧ KAt K H k D rows ∧ ∀ p us H', Same H H' → H p = none → H' p = some (.lst us) → Trs K H' us (rts rows) → Q (.ref p) H'
theorem lit_known : Str.ofString How.known.str = Str.ofString "known" := rfl
section
variable {P : Program} {w : World} {K : PySem.W.Frag} {mg : Str → Option Value} {base : Heap}
theorem o_Kept___init__ (W : Wd fa fn K mg) : OkF P w K mg base d_Kept___init__ 60 ["self", "known"] (spKInit K) := by
  have o_shown := (o_shown (P := P) (w := w) (base := base) W 40).mono (show 40 + 1 ≤ 59 by decide)
  obtain ⟨fd_shown, F_shown, b_shown, k_shown⟩ := o_shown.ex
  refine okf W (d := d_Kept___init__) 10 sc_Kept___init__ rfl rfl (fun _ _ _ _ _ _ us hl => match us, hl with | [_, _], _ => rfl) ?len (fun cdv A outer s H vs Q E hr nd hu tk po h => ?body)
  case len =>
    rintro vs H Q E ⟨_, _, _, _, _, rfl, _⟩
    rfl
  case body =>
    refine ⟨_, (pss_one (ps_fld (pv 0) (pe_dc (own := [("term", 2)]) (g := (gName 2)) (tt := tYes) rfl nd (pi_any (pv 1)) (blkOk_by (own := [("term", 2)]) (N := ["self", "known", "term"]) (sc := defScope s_Kept___init__) (by decide +kernel)) (fun _ _ _ _ _ => (pg_name (i := 2) nd rfl (by first | exact Or.inl rfl | exact Or.inr rfl))) (fun _ _ _ _ _ => pts_nil) (fun _ _ _ _ _ => (pe_call F_shown (hr.mono (by first | decide | omega)) rfl (W.glo 22) k_shown b_shown .nil passL (pa_cons (pv 2) pa_nil))) (fun _ _ _ _ _ => (pe_tup (pa_cons (pv 2) (pa_cons (pe_tup (pa_cons pe_str (pa_cons (pe_tup pa_nil) pa_nil))) pa_nil))))) rfl)), ?_⟩
    obtain ⟨r, dx, a, xs, ts, rfl, hr0, hsq, hx, hok, hln, hq⟩ := h
    clear tk po
    have szl := sizeLine_eq
    have hxl := hx.len
    walk_at "x"
    obtain ⟨J, G, wk, hJ, hG⟩ := any_walk hsq
    unfold tDc
    refine hJ _ _ _ _ (Same.refl H) (fun R h => ⟨_, rfl, h⟩) fun Da hDa => ?_
    refine dc_it wk (fun i H1 => Same H H1 ∧ ∃ vs, H1 Da = some (.dK (dkE (dedup (ts.take i)) vs)) ∧ DpAll K H1 vs ((knownRows (ts.take i)).map rowD)) ⟨Same.new hDa, [], upd_same, .nil⟩ (fun i H1 _ h => hG H1 h.1) ?_ ?_
    · rintro i x H1 H2 hi ⟨s1, vs, hd1, hv1⟩ ⟨rfl, hxi⟩
      obtain ⟨t, ht, hv⟩ := hx.get hxi
      have tok := hok t (List.mem_of_getElem? ht)
      have tt := tok.tm
      walk_at "x"
      simp only [tYes, if_true]
      refine ⟨x, t.enc, rfl, Dp.sm s1 _ _ hv, tt.flat, by have := tt.len; omega, fun H3 s3 => ⟨by decide, fun p1 hp1 => ⟨by decide, fun p2 hp2 => ⟨by decide, fun p3 hp3 => ?_⟩⟩⟩⟩
      have a1 := new_tup (K := K) hp1 DpAll.nil
      have a2 := new_tup (K := K) hp2 (.cons (.str (Str.ofString "known")) (.cons a1 .nil))
      have s4 := Same.trans (Same.new (o := HO.tup []) hp1) (Same.new (o := HO.tup [V.str (Str.ofString "known"), V.ref p1]) hp2)
      have s13 := Same.trans s1 s3
      have a3 := new_tup (K := K) hp3 (.cons (Dp.sm (Same.trans s13 s4) _ _ hv) (.cons a2 .nil))
      have s5 := Same.trans s4 (Same.new (o := HO.tup [x, V.ref p2]) hp3)
      have a3' : Dp K (upd (upd (upd H3 p1 (HO.tup [])) p2 (HO.tup [V.str (Str.ofString "known"), V.ref p1])) p3 (HO.tup [x, V.ref p2])) (.ref p3) (rowD (t, .known, [])) := a3
      clear a1 a2 a3
      generalize (upd (upd (upd H3 p1 (HO.tup [])) p2 (HO.tup [V.str (Str.ofString "known"), V.ref p1])) p3 (HO.tup [x, V.ref p2])) = H5 at s5 a3'
      have hvl := DpAll.length hv1
      unfold knownRows at hvl
      rw [List.length_map, List.length_map] at hvl
      have hd5 := s5 _ _ (s3 _ _ hd1)
      have hv5 := Dp.sms (Same.trans s3 s5) _ _ hv1
      have tX : Tx H5 (upd H5 Da (HO.dK (putK (dkE (dedup (ts.take i)) vs) (kE t) (V.ref p3)))) := Tx.up hd5 noTup_d
      have dl := dedup_len (ts.take i)
      rw [List.length_take] at dl
      refine ⟨_, kE t, rfl, hd5, by rw [dkE_len hvl.symm]; omega, Same.mut (Same.trans s13 s5) hDa, ?_⟩
      have hni := dedup_nodup (ts.take i)
      rw [List.take_add_one, ht]
      show ∃ vs_1, _ ∧ DpAll K _ vs_1 (List.map rowD (knownRows (ts.take i ++ [t])))
      by_cases hm : t ∈ dedup (ts.take i)
      · obtain ⟨j, hj, e⟩ := List.getElem_of_mem hm
        have ej : (dedup (ts.take i))[j]? = some t := by rw [List.getElem?_eq_getElem hj, e]
        refine ⟨vs.set j (.ref p3), ?_, ?_⟩
        · rw [upd_same, dkE_put_old _ hni hvl.symm ej]
          show _ = some (HO.dK (dkE (dedup (ts.take i ++ [t])) _))
          rw [dedup_snoc, if_pos hm]
        · unfold knownRows
          rw [dedup_snoc, if_pos hm]
          refine DpAll.set (d := rowD (t, .known, [])) (Dp.txs tX _ _ (imm_rows _) hv5) (Dp.tx tX _ _ (imm_row _) a3') ?_
          rw [List.getElem?_map, List.getElem?_map, ej]
          rfl
      · refine ⟨vs ++ [.ref p3], ?_, ?_⟩
        · rw [upd_same, dkE_put hvl.symm hm]
          show _ = some (HO.dK (dkE (dedup (ts.take i ++ [t])) _))
          rw [dedup_snoc, if_neg hm]
        · unfold knownRows
          rw [dedup_snoc, if_neg hm, List.map_append, List.map_append]
          exact DpAll.app (Dp.txs tX _ _ (imm_rows _) hv5) (.cons (Dp.tx tX _ _ (imm_row _) a3') .nil)
    · rintro H1 ⟨s1, vs, hd1, hv1⟩
      rw [hxl, List.take_length] at hd1 hv1
      have hr1 := s1 _ _ hr0
      have nr : r ≠ Da := fun e => by rw [e] at hr0; rw [hr0] at hDa; cases hDa
      refine ⟨_, _, _, hr1, W.cls 27, W.noat 71, by decide, ?_⟩
      refine hq Da _ hDa (Off.trans (Off.of s1) Off.upd) ⟨⟨dx, vs, upd_same, ?_, ?_⟩, ?_, ?_, ?_⟩
      · rw [upd_ne nr.symm, rts_known]
        exact hd1
      · exact Dp.txs (Tx.up hr1 noTup_i) _ _ (imm_rows _) hv1
      · rw [rts_known]; exact dedup_nodup ts
      · rw [rts_known]; exact fun t h => hok t ((dedup_mem ts t).mp h)
      · unfold knownRows
        rw [List.length_map]
        exact Nat.le_trans (dedup_len ts) hln
theorem o_Kept_has (W : Wd fa fn K mg) : OkF P w K mg base d_Kept_has 60 ["self", "term"] (spKHas K) := by
  have o_shown := (o_shown (P := P) (w := w) (base := base) W 40).mono (show 40 + 1 ≤ 59 by decide)
  obtain ⟨fd_shown, F_shown, b_shown, k_shown⟩ := o_shown.ex
  refine okf W (d := d_Kept_has) 11 sc_Kept_has rfl rfl (fun _ _ _ _ _ _ us hl => match us, hl with | [_, _], _ => rfl) ?len (fun cdv A outer s H vs Q E hr nd hu tk po h => ?body)
  case len =>
    rintro vs H Q E ⟨_, _, _, _, _, rfl, _⟩
    rfl
  case body =>
    refine ⟨_, (pss_one (ps_ret (pe_cmp (pc_din hu (by exact (pe_callS F_shown (hr.mono (by first | decide | omega)) rfl (W.glo 22) k_shown b_shown (fun σ => passAt tk σ) (by exact (pa_cons (pv 1) pa_nil)))) (pe_fld (pv 0) rfl)) rfl))), ?_⟩
    obtain ⟨k, D, rows, x, t, rfl, g, hv, tok, hq⟩ := h
    clear tk po
    have tt := tok.tm
    walk_at "x"
    simp only [tDIn]
    walk_at "x"
    refine ⟨x, t.enc, rfl, hv, tt.flat, by have := tt.len; omega, fun H3 s3 => ?_⟩
    have g3 := g.same s3
    obtain ⟨⟨dx, vs, h1, h2, h3⟩, nd, ok, ln⟩ := g3
    have hl := DpAll.length h3
    rw [List.length_map] at hl
    refine ⟨_, _, _, h1, W.cls 27, W.noat 71, .ref D, rfl, D, rfl, _, DGet.k h2 (k := kE t), ?_⟩
    rw [dkE_has (by rw [rts_len, hl]) nd]
    exact hq H3 s3
theorem o_Kept_put (W : Wd fa fn K mg) : OkF P w K mg base d_Kept_put 60 ["self", "term", "how"] (spKPut K) := by
  have o_shown := (o_shown (P := P) (w := w) (base := base) W 40).mono (show 40 + 1 ≤ 59 by decide)
  obtain ⟨fd_shown, F_shown, b_shown, k_shown⟩ := o_shown.ex
  refine okf W (d := d_Kept_put) 12 sc_Kept_put rfl rfl (fun _ _ _ _ _ _ us hl => match us, hl with | [_, _, _], _ => rfl) ?len (fun cdv A outer s H vs Q E hr nd hu tk po h => ?body)
  case len =>
    rintro vs H Q E ⟨_, _, _, _, _, _, _, _, rfl, _⟩
    rfl
  case body =>
    refine ⟨_, (pss_one (ps_dput hu (pe_fld (pv 0) rfl) (by exact (pe_callS F_shown (hr.mono (by first | decide | omega)) rfl (W.glo 22) k_shown b_shown (fun σ => passAt tk σ) (by exact (pa_cons (pv 1) pa_nil)))) (pe_tup (pa_cons (pv 1) (pa_cons (pv 2) pa_nil))) rfl)), ?_⟩
    obtain ⟨k, D, rows, x, y, t, h, hs, rfl, g, hv, tok, hy, hn, hln, hq⟩ := h
    clear tk po
    have tt := tok.tm
    walk_at "x"
    simp only [sDPut]
    walk_at "x"
    refine ⟨by decide, fun p hp => ?_⟩
    have s1 := Same.new (o := HO.tup [x, y]) hp
    have g1 := g.same s1
    have nk := g.ne
    obtain ⟨⟨dx, vs, h1, h2, h3⟩, nd, ok, ln⟩ := g1
    have hl := DpAll.length h3
    rw [List.length_map] at hl
    have a1 := new_tup (K := K) hp (.cons hv (.cons hy .nil))
    refine ⟨_, _, _, h1, W.cls 27, W.noat 71, .ref D, rfl, x, t.enc, rfl, Dp.sm s1 _ _ hv, tt.flat, by have := tt.len; omega, fun H3 s3 => ⟨D, rfl, _, DPut.k (s3 _ _ h2) (k := kE t) (by rw [dkE_len (by rw [rts_len, hl]), rts_len, sizeLine_eq]; omega), ?_⟩⟩
    have tX : Tx H3 (upd H3 D (HO.dK (putK (dkE (rts rows) vs) (kE t) (V.ref p)))) := Tx.up (s3 _ _ h2) noTup_d
    have er : rts (rows ++ [(t, h, hs)]) = rts rows ++ [t] := rts_app ..
    refine hq _ (Off.trans (Off.of (Same.trans s1 s3)) Off.upd) ⟨⟨dx, vs ++ [.ref p], ?_, ?_, ?_⟩, ?_, ?_, ?_⟩
    · rw [upd_ne nk]; exact s3 _ _ h1
    · rw [upd_same, dkE_put (by rw [rts_len, hl]) hn, er]
    · rw [List.map_append]
      exact DpAll.app (Dp.txs tX _ _ (imm_rows _) (Dp.sms s3 _ _ h3)) (.cons (Dp.tx tX _ _ (imm_row (t, h, hs)) (Dp.sm s3 _ _ a1)) .nil)
    · rw [er]
      exact List.nodup_append.mpr ⟨nd, by simp, by simp; intro a ha e; exact hn (e ▸ ha)⟩
    · rw [er]
      intro u hu
      rcases List.mem_append.mp hu with hu | hu
      · exact ok u hu
      · rw [List.mem_singleton.mp hu]; exact tok
    · rw [List.length_append, List.length_singleton]; omega
theorem o_Kept_how (W : Wd fa fn K mg) : OkF P w K mg base d_Kept_how 60 ["self", "term"] (spKHow K) := by
  have o_shown := (o_shown (P := P) (w := w) (base := base) W 40).mono (show 40 + 1 ≤ 59 by decide)
  obtain ⟨fd_shown, F_shown, b_shown, k_shown⟩ := o_shown.ex
  refine okf W (d := d_Kept_how) 13 sc_Kept_how rfl rfl (fun _ _ _ _ _ _ us hl => match us, hl with | [_, _], _ => rfl) ?len (fun cdv A outer s H vs Q E hr nd hu tk po h => ?body)
  case len =>
    rintro vs H Q E ⟨_, _, _, _, _, _, _, rfl, _⟩
    rfl
  case body =>
    refine ⟨_, (pss_one (ps_ret (pe_ix ix_tup (pe_dget hu (pe_fld (pv 0) rfl) (by exact (pe_callS F_shown (hr.mono (by first | decide | omega)) rfl (W.glo 22) k_shown b_shown (fun σ => passAt tk σ) (by exact (pa_cons (pv 1) pa_nil)))) (fun _ _ => rfl)) pe_int (fun _ _ => rfl)))), ?_⟩
    obtain ⟨k, D, rows, x, t, h, hs, rfl, g, hv, hm, hq⟩ := h
    clear tk po
    walk_at "x"
    simp only [tDGet]
    walk_at "x"
    have tok := g.ok t (rts_mem hm)
    have tt := tok.tm
    obtain ⟨⟨dx, vs, h1, h2, h3⟩, nd, ok, ln⟩ := g
    refine ⟨_, _, _, h1, W.cls 27, W.noat 71, .ref D, rfl, x, t.enc, rfl, hv, tt.flat, by have := tt.len; omega, fun H3 s3 => ⟨D, rfl, ?_⟩⟩
    have hl := DpAll.length h3
    rw [List.length_map] at hl
    obtain ⟨i, hi⟩ := List.mem_iff_getElem?.mp hm
    have hil : i < vs.length := by rw [hl]; exact (List.getElem?_eq_some_iff.mp hi).1
    obtain ⟨d, hd, hdv⟩ := DpAll.get h3 (List.getElem?_eq_getElem hil)
    rw [List.getElem?_map, hi] at hd
    cases hd
    have e1 := dkE_some (t := t) nd (by unfold rts; rw [List.getElem?_map, hi]; rfl) (List.getElem?_eq_getElem hil)
    have hdv3 := Dp.sm s3 _ _ hdv
    refine ⟨vs[i], by rw [← e1]; exact DGet.k (s3 _ _ h2) (k := kE t), ?_⟩
    generalize vs[i] = v at hdv3
    unfold rowD at hdv3
    cases hdv3 with
    | tup k1 k2 =>
      cases k2 with
      | cons k3 k4 =>
        cases k4 with
        | cons k5 k6 =>
          cases k6
          exact ⟨_, rfl, _, k1, _, atI_nat (j := 1) rfl, hq _ H3 s3 k5⟩
theorem o_Kept_terms (W : Wd fa fn K mg) : OkF P w K mg base d_Kept_terms 60 ["self"] (spKTerms K) := by
  skip
  refine okf W (d := d_Kept_terms) 14 sc_Kept_terms rfl rfl (fun _ _ _ _ _ _ us hl => match us, hl with | [_], _ => rfl) ?len (fun cdv A outer s H vs Q E hr nd hu tk po h => ?body)
  case len =>
    rintro vs H Q E ⟨_, _, _, rfl, _⟩
    rfl
  case body =>
    refine ⟨_, (pss_one (ps_ret (pe_lock (pe_lc (own := [("row", 1)]) (g := (gName 1)) (tt := tYes) rfl nd (pi_values (pe_fld (pv 0) rfl)) (blkOk_by (own := [("row", 1)]) (N := ["self", "row"]) (sc := defScope s_Kept_terms) (by decide +kernel)) (fun _ _ _ _ _ => (pg_name (i := 1) nd rfl (by first | exact Or.inl rfl | exact Or.inr rfl))) (fun _ _ _ _ _ => pts_nil) (fun _ _ _ _ _ => (pe_ix (kIx (K := K) (r := rIxT) rfl ix_tup) (pv 1) pe_int (fun _ _ => rfl))))))), ?_⟩
    obtain ⟨k, D, rows, rfl, g, hq⟩ := h
    clear tk po
    walk_at "x"
    simp only [tLockE]
    obtain ⟨⟨dx, vs, h1, h2, h3⟩, nd, ok, ln⟩ := g
    refine ⟨D, _, h2, trivial, fun od => ?_⟩
    have nk : k ≠ D := fun e => by rw [e, h2] at h1; cases h1
    have tX : Tx H (upd H D (.frz od (.dK (dkE (rts rows) vs)))) := Tx.up h2 noTup_d
    have hl := DpAll.length h3
    rw [List.length_map] at hl
    refine ⟨_, rfl, k, _, _, _, .ref D, rfl, by rw [upd_ne nk]; exact h1, W.cls 27, W.noat 71, rfl, D, od, _, rfl, upd_same, fun p hp => ?_⟩
    have h3' := Dp.txs tX _ _ (imm_rows _) h3
    have hpH : H p = none := by
      by_cases e : p = D
      · rw [e, upd_same] at hp; cases hp
      · rwa [upd_ne e] at hp
    have hpD : p ≠ D := fun e => by rw [e, upd_same] at hp; cases hp
    refine lc_it (walk_values (o := od)) (fun i H2 => Same (upd H D (.frz od (.dK (dkE (rts rows) vs)))) H2 ∧ ∃ us, H2 p = some (.lst us) ∧ Trs K H2 us ((rts rows).take i)) ⟨Same.new hp, [], upd_same, .nil⟩ (fun i H2 _ h => h.1 _ _ upd_same) ?_ ?_
    · rintro i x H2 H3 hi ⟨s2, us, hus, hdu⟩ ⟨rfl, kk, hx⟩
      have hil : i < rows.length := by rwa [dkE_len (by rw [rts_len, hl]), rts_len] at hi
      have hget : ∀ {ts : List Te} {vs : List V} {i : Nat} {kk : Key} {x : V}, (dkE ts vs)[i]? = some (kk, x) → vs[i]? = some x := by
        intro ts
        induction ts with
        | nil => intro vs i kk x h; cases vs <;> simp [dkE] at h
        | cons t ts ih =>
          intro vs i kk x h
          cases vs with
          | nil => simp [dkE] at h
          | cons v vs =>
            cases i with
            | zero => simp [dkE] at h; simp [h.2]
            | succ i => simp [dkE] at h; simpa using ih h
      obtain ⟨d, hd, hdv⟩ := DpAll.get h3' (hget hx)
      rw [List.getElem?_map, List.getElem?_eq_getElem hil] at hd
      cases hd
      have hdv3 := Dp.sm s2 _ _ hdv
      have hlen := hdu.len
      walk_at "x"
      simp only [tYes, if_true]
      unfold rowD at hdv3
      cases hdv3 with
      | tup k1 k2 =>
        cases k2 with
        | cons k3 k4 =>
          refine ⟨_, rfl, _, k1, _, atI_nat (j := 0) rfl, us, hus, by rw [hlen, List.length_take, sizeLine_eq]; omega, Same.mut s2 hp, _, upd_same, ?_⟩
          have e3 : (rts rows)[i]? = some rows[i].1 := by unfold rts; rw [List.getElem?_map, List.getElem?_eq_getElem hil]; rfl
          rw [List.take_add_one, e3]
          exact Trs.snoc (hdu.tx (Tx.up hus noTup_l)) (Tr.tx (Tx.up hus noTup_l) k3)
    · rintro H2 ⟨s2, us, hus, hdu⟩
      rw [dkE_len (by rw [rts_len, hl]), List.take_of_length_le (Nat.le_refl _)] at hdu
      have hD2 := s2 _ _ upd_same
      refine ⟨hD2, hq p us _ ?_ hpH (by rw [upd_ne hpD]; exact hus) ?_⟩
      · intro a o e
        by_cases ea : a = D
        · subst ea
          rw [upd_same]; rw [h2] at e; exact e
        · rw [upd_ne ea]
          exact s2 a o (by rw [upd_ne ea]; exact e)
      · refine hdu.tx fun a xs => ⟨fun e => ?_, fun o e => ?_⟩
        · rw [upd_ne (fun q => by rw [q, hD2] at e; cases e)]; exact e
        · rw [upd_ne (fun q => by rw [q, hD2] at e; cases e)]; exact e
end
end WW

set_option maxHeartbeats 4000000
namespace WW
open PySem PySem.Spec PyProof.Rows L2
/-! ### comprehensions, folded -/
theorem tLc_map {J : It} {n : Nat} {G : Hp → Prop} {xs : List V} {wi : TI} {te : TE} {vs : List Nat} {σ : L2.St} {H H1 : Hp} {Q : VK} {j : Nat} (wk : Walk J n G (YAt xs)) (hn : n ≤ 1000000)
    (hwi : ∀ R : It → Hp → Prop, R J H1 → wi σ H R) (hG : ∀ H', Same H1 H' → G H') (hw : ∀ x, wipe ((wipe σ vs).set j (some x)) vs = wipe σ vs)
    (Pr : Nat → Hp → V → Prop) (hst : ∀ i H H' y, Tx H H' → Pr i H y → Pr i H' y)
    (he : ∀ i x H2 (R : VK), i < n → xs[i]? = some x → Same H1 H2 → (∀ y H3, Same H2 H3 → Pr i H3 y → R y H3) → te ((wipe σ vs).set j (some x)) H2 R)
    (hq : ∀ D ys H2, Same H1 H2 → H1 D = none → H2 D = some (.lst ys) → ys.length = n → (∀ i y, ys[i]? = some y → Pr i H2 y) → Q (.ref D) H2) : tLc wi (gName j) tYes te vs σ H Q := by
  have szl := sizeLine_eq
  refine tLc_of wk hwi (fun D i H2 => Same H1 H2 ∧ H1 D = none ∧ ∃ ys, H2 D = some (.lst ys) ∧ ys.length = i ∧ ∀ i y, ys[i]? = some y → Pr i H2 y) (fun D hD => ⟨Same.new hD, hD, [], upd_same, rfl, fun i y h => by simp at h⟩) (fun D i H2 _ h => hG H2 h.1) ?_ ?_
  · rintro D i x H2 H3 hi ⟨s2, hD, ys, h2, hl, hp⟩ ⟨rfl, hx⟩
    refine ⟨hw _, ?_⟩
    show tYes _ _ _
    unfold tYes
    refine iteT ?_
    refine he i x H3 _ hi hx s2 fun y H4 s4 hy => ?_
    have tX : Tx H4 (upd H4 D (.lst (ys ++ [y]))) := Tx.up (s4 _ _ h2) noTup_l
    refine ⟨ys, s4 _ _ h2, by omega, Same.mut (Same.trans s2 s4) hD, hD, _, upd_same, by simp [hl], fun k z hk => ?_⟩
    by_cases hkl : k < ys.length
    · rw [List.getElem?_append_left hkl] at hk
      exact hst k _ _ z ((Tx.of s4).trans tX) (hp k z hk)
    · have hl2 := (List.getElem?_eq_some_iff.mp hk).1
      rw [List.length_append, List.length_singleton] at hl2
      have e : k = ys.length := by omega
      subst e
      rw [List.getElem?_append_right (Nat.le_refl _), Nat.sub_self] at hk
      simp at hk
      subst hk
      rw [hl]
      exact hst i _ _ y tX hy
  · rintro D H2 ⟨s2, hD, ys, h2, hl, hp⟩
    exact hq D ys H2 s2 hD h2 hl hp
/-- the walked thing is made within the walk -/
theorem tLc_made {C : It → Hp → List V → Prop} {g : TG} {tt : TT} {wi : TI} {te : TE} {vs : List Nat} {σ : L2.St} {H : Hp} {Q : VK} (hwi : ∀ R : It → Hp → Prop, (∀ J H1 xs, C J H1 xs → R J H1) → wi σ H R)
    (hb : ∀ J H1 xs, C J H1 xs → tLc (fun _ _ R => R J H1) g tt te vs σ H1 Q) : tLc wi g tt te vs σ H Q := hwi _ fun J H1 xs c => hb J H1 xs c
/-- a list of terms, new -/
def NewTs (K : PySem.W.Frag) (H : Hp) (ts : List Te) : It → Hp → List V → Prop := fun J H1 xs => ∃ D, J = Itl K D ∧ Same H H1 ∧ H1 D = some (.lst xs) ∧ Trs K H1 xs ts
/-- [t for t in ts if p(t)] -/
theorem tLc_filt {K : PySem.W.Frag} {J : It} {G : Hp → Prop} {xs : List V} {ts : List Te} {wi : TI} {tt : TT} {vs : List Nat} {σ : L2.St} {H H1 : Hp} {Q : VK} {j : Nat} (wk : Walk J xs.length G (YAt xs)) (hn : xs.length ≤ 1000000) (hx : Trs K H1 xs ts)
    (hwi : ∀ R : It → Hp → Prop, R J H1 → wi σ H R) (hG : ∀ H', Same H1 H' → G H') (hw : ∀ x, wipe ((wipe σ vs).set j (some x)) vs = wipe σ vs) (hj : ∀ x, ((wipe σ vs).set j (some x))[j]? = some (some x))
    (p : Te → Bool)
    (he : ∀ t x H2 (R : Bool → Hp → Prop), t ∈ ts → Tr K H2 x t → Same H1 H2 → (∀ H3, Same H2 H3 → R (p t) H3) → tt ((wipe σ vs).set j (some x)) H2 R)
    (hq : ∀ D ys H2, Same H1 H2 → H1 D = none → H2 D = some (.lst ys) → Trs K H2 ys (ts.filter p) → Q (.ref D) H2) : tLc wi (gName j) tt (tVar j) vs σ H Q := by
  have szl := sizeLine_eq
  have hxl := hx.len
  refine tLc_of wk hwi (fun D i H2 => Same H1 H2 ∧ H1 D = none ∧ ∃ ys, H2 D = some (.lst ys) ∧ ys.length ≤ i ∧ Trs K H2 ys ((ts.take i).filter p)) (fun D hD => ⟨Same.new hD, hD, [], upd_same, Nat.le_refl _, .nil⟩) (fun D i H2 _ h => hG H2 h.1) ?_ ?_
  · rintro D i x H2 H3 hi ⟨s2, hD, ys, h2, hl, hp⟩ ⟨rfl, hxi⟩
    obtain ⟨t, ht, hv⟩ := hx.get hxi
    refine ⟨hw _, ?_⟩
    refine he t x H3 _ (List.mem_of_getElem? ht) (Tr.sm s2 hv) s2 fun H4 s4 => ?_
    have ef : (ts.take (i + 1)).filter p = (ts.take i).filter p ++ if p t then [t] else [] := by
      rw [List.take_add_one, ht, List.filter_append]
      congr 1
      simp only [Option.toList, List.filter_cons, List.filter_nil]
    rw [ef]
    cases hpt : p t with
    | true =>
      rw [if_pos rfl]
      refine ⟨x, hj x, ys, s4 _ _ h2, by omega, Same.mut (Same.trans s2 s4) hD, hD, _, upd_same, by simp; omega, ?_⟩
      have tX : Tx H4 (upd H4 D (.lst (ys ++ [x]))) := Tx.up (s4 _ _ h2) noTup_l
      exact Trs.snoc ((Trs.sm s4 hp).tx tX) (Tr.tx tX (Tr.sm (Same.trans s2 s4) hv))
    | false =>
      rw [if_neg (by decide)]
      refine ⟨Same.trans s2 s4, hD, ys, s4 _ _ h2, by omega, ?_⟩
      simpa using Trs.sm s4 hp
  · rintro D H2 ⟨s2, hD, ys, h2, hl, hp⟩
    rw [hxl, List.take_length] at hp
    exact hq D ys H2 s2 hD h2 hp
theorem DpAll.of_get {K : PySem.W.Frag} {H : Hp} : ∀ {ys : List V} {ds : List PyData}, ys.length = ds.length → (∀ (i : Nat) (y : V) (d : PyData), ys[i]? = some y → ds[i]? = some d → Dp K H y d) → DpAll K H ys ds
  | [], [], _, _ => .nil
  | [], _ :: _, h, _ => by simp at h
  | _ :: _, [], h, _ => by simp at h
  | y :: ys, d :: ds, h, g => .cons (g 0 y d rfl rfl) (DpAll.of_get (by simpa using h) fun i y' d' h1 h2 => g (i + 1) y' d' (by simpa using h1) (by simpa using h2))
theorem Trs.of_get {K : PySem.W.Frag} {H : Hp} {ys : List V} {ts : List Te} (h : ys.length = ts.length) (g : ∀ (i : Nat) (y : V) (t : Te), ys[i]? = some y → ts[i]? = some t → Tr K H y t) : Trs K H ys ts := DpAll.of_get (by rw [List.length_map]; exact h) fun i y d h1 h2 => by
  rw [List.getElem?_map] at h2
  obtain ⟨t, ht, rfl⟩ := Option.map_eq_some_iff.mp h2
  exact g i y t h1 ht
/-- a list of truths -/
theorem bls_of {ys : List V} {n : Nat} {f : Nat → Bool} (h : ys.length = n) (g : ∀ (i : Nat) (y : V), ys[i]? = some y → y = .bl (f i)) : ys = ((List.range n).map f).map V.bl := by
  apply List.ext_getElem?
  intro i
  by_cases hi : i < ys.length
  · rw [List.getElem?_eq_getElem hi, g i _ (List.getElem?_eq_getElem hi), List.getElem?_map, List.getElem?_map, List.getElem?_range (by omega)]
    rfl
  · rw [List.getElem?_eq_none (by omega), List.getElem?_eq_none (by simp; omega)]
theorem all_of {n : Nat} {f : Nat → Bool} : ((List.range n).map f).all id = decide (∀ i, i < n → f i = true) := by
  rw [Bool.eq_iff_iff, List.all_eq_true, decide_eq_true_eq]
  simp
theorem any_of {n : Nat} {f : Nat → Bool} : ((List.range n).map f).any id = decide (∃ i, i < n ∧ f i = true) := by
  rw [Bool.eq_iff_iff, List.any_eq_true, decide_eq_true_eq]
  simp
/-! ### small ones -/
theorem Trs1 {K : PySem.W.Frag} {H : Hp} {us : List V} {t : Te} (h : Trs K H us [t]) : ∃ v, us = [v] ∧ Tr K H v t := by
  unfold Trs at h
  cases h with
  | cons h1 h2 => cases h2; exact ⟨_, rfl, h1⟩
theorem Trs2 {K : PySem.W.Frag} {H : Hp} {us : List V} {s t : Te} (h : Trs K H us [s, t]) : ∃ v w, us = [v, w] ∧ Tr K H v s ∧ Tr K H w t := by
  unfold Trs at h
  cases h with
  | cons h1 h2 => cases h2 with
    | cons h3 h4 => cases h4; exact ⟨_, _, rfl, h1, h3⟩
theorem Trs0 {K : PySem.W.Frag} {H : Hp} {us : List V} (h : Trs K H us []) : us = [] := by
  unfold Trs at h
  cases h; rfl
theorem Tr.one {K : PySem.W.Frag} {H : Hp} {v : V} {t a : Te} (h : Tr K H v t) (e : t.parts = [a]) : ∃ p x, v = .ref p ∧ SqT K H p [.str (Str.ofString t.word), x] ∧ Tr K H x a := by
  obtain ⟨p, us, rfl, h1, h2⟩ := h.view
  have h3 := h2 (by rw [e]; simp)
  rw [e] at h3
  obtain ⟨x, rfl, hx⟩ := Trs1 h3
  exact ⟨p, x, rfl, h1, hx⟩
theorem Tr.two {K : PySem.W.Frag} {H : Hp} {v : V} {t a b : Te} (h : Tr K H v t) (e : t.parts = [a, b]) : ∃ p x y, v = .ref p ∧ SqT K H p [.str (Str.ofString t.word), x, y] ∧ Tr K H x a ∧ Tr K H y b := by
  obtain ⟨p, us, rfl, h1, h2⟩ := h.view
  have h3 := h2 (by rw [e]; simp)
  rw [e] at h3
  obtain ⟨x, y, rfl, hx, hy⟩ := Trs2 h3
  exact ⟨p, x, y, rfl, h1, hx, hy⟩
theorem rIn_lit {K : PySem.W.Frag} {H : Hp} {p : Addr} {u : Str} {ss : List Str} {xs : List V} {Q : VK} (h : SqA K H p xs) (e : xs = ss.map V.str) (b : Bool) (hb : (ss.any fun w => decide (w = u)) = b) (hq : Q (.bl b) H) : rIn K false (.str u) (.ref p) H Q := by
  subst e
  refine ⟨p, _, rfl, h, rfl, flatS ss, ?_⟩
  rw [inS, hb]
  exact hq
theorem len_l {K : PySem.W.Frag} {H : Hp} {p : Addr} {xs : List V} (h : H p = some (.lst xs)) : LenV K (.ref p) H xs.length := .inl ⟨_, SqL.of h, rfl⟩
/-- the terms as data, compared -/
theorem rEqT {K : PySem.W.Frag} {H : Hp} {x y : V} {s t : Te} {Q : VK} (hx : Tr K H x s) (hy : Tr K H y t) (hs : s.ok) (hq : Q (.bl (decide (s = t))) H) : rEqW K x y H Q := by
  refine ⟨_, _, hx, hy, lay_enc s, lay_enc t, ?_, ?_⟩
  · have := depth_enc s
    have := hs.2
    omega
  · rw [eqv_enc]
    exact hq
theorem rNeT {K : PySem.W.Frag} {H : Hp} {x y : V} {s t : Te} {Q : VK} (hx : Tr K H x s) (hy : Tr K H y t) (hs : s.ok) (hq : Q (.bl (!decide (s = t))) H) : rNeW K x y H Q := by
  refine ⟨_, _, hx, hy, lay_enc s, lay_enc t, ?_, ?_⟩
  · have := depth_enc s
    have := hs.2
    omega
  · rw [eqv_enc]
    exact hq
theorem eqvs_enc : ∀ (ss ts : List Te), PyData.eqvAll (ss.map Te.enc) (ts.map Te.enc) = decide (ss = ts)
  | [], [] => by simp [PyData.eqvAll]
  | [], _ :: _ => by simp [PyData.eqvAll]
  | _ :: _, [] => by simp [PyData.eqvAll]
  | s :: ss, t :: ts => by
    simp only [List.map_cons, PyData.eqvAll, eqv_enc, eqvs_enc ss ts]
    by_cases h : s = t <;> by_cases g : ss = ts <;> simp [h, g]
/-- lists of terms, compared -/
theorem rEqTs {K : PySem.W.Frag} {H : Hp} {p q : Addr} {xs ys : List V} {ss ts : List Te} {Q : VK} (hp : SqL K H p xs) (hq' : SqL K H q ys) (hx : Trs K H xs ss) (hy : Trs K H ys ts) (hs : ∀ s ∈ ss, s.ok) (hq : Q (.bl (decide (ss = ts))) H) : rEqW K (.ref p) (.ref q) H Q := by
  refine ⟨.list (ss.map Te.enc), .list (ts.map Te.enc), .lst hp hx, .lst hq' hy, by simp only [PyData.canLay0]; exact lay_encs ss, by simp only [PyData.canLay0]; exact lay_encs ts, ?_, ?_⟩
  · have := depth_encs hs
    simp only [PyData.depth]
    omega
  · simp only [PyData.eqv]
    rw [eqvs_enc]
    exact hq
theorem rNeTs {K : PySem.W.Frag} {H : Hp} {p q : Addr} {xs ys : List V} {ss ts : List Te} {Q : VK} (hp : SqL K H p xs) (hq' : SqL K H q ys) (hx : Trs K H xs ss) (hy : Trs K H ys ts) (hs : ∀ s ∈ ss, s.ok) (hq : Q (.bl (!decide (ss = ts))) H) : rNeW K (.ref p) (.ref q) H Q := by
  refine ⟨.list (ss.map Te.enc), .list (ts.map Te.enc), .lst hp hx, .lst hq' hy, by simp only [PyData.canLay0]; exact lay_encs ss, by simp only [PyData.canLay0]; exact lay_encs ts, ?_, ?_⟩
  · have := depth_encs hs
    simp only [PyData.depth]
    omega
  · simp only [PyData.eqv]
    rw [eqvs_enc]
    exact hq
/-- tuples of terms, compared -/
theorem rNeTt {K : PySem.W.Frag} {H : Hp} {p q : Addr} {xs ys : List V} {ss ts : List Te} {Q : VK} (hp : SqT K H p xs) (hq' : SqT K H q ys) (hx : Trs K H xs ss) (hy : Trs K H ys ts) (hs : ∀ s ∈ ss, s.ok) (hq : Q (.bl (!decide (ss = ts))) H) : rNeW K (.ref p) (.ref q) H Q := by
  refine ⟨.tuple (ss.map Te.enc), .tuple (ts.map Te.enc), .tup hp hx, .tup hq' hy, by simp only [PyData.canLay0]; exact lay_encs ss, by simp only [PyData.canLay0]; exact lay_encs ts, ?_, ?_⟩
  · have := depth_encs hs
    simp only [PyData.depth]
    omega
  · simp only [PyData.eqv]
    rw [eqvs_enc]
    exact hq
theorem rEqTt {K : PySem.W.Frag} {H : Hp} {p q : Addr} {xs ys : List V} {ss ts : List Te} {Q : VK} (hp : SqT K H p xs) (hq' : SqT K H q ys) (hx : Trs K H xs ss) (hy : Trs K H ys ts) (hs : ∀ s ∈ ss, s.ok) (hq : Q (.bl (decide (ss = ts))) H) : rEqW K (.ref p) (.ref q) H Q := by
  refine ⟨.tuple (ss.map Te.enc), .tuple (ts.map Te.enc), .tup hp hx, .tup hq' hy, by simp only [PyData.canLay0]; exact lay_encs ss, by simp only [PyData.canLay0]; exact lay_encs ts, ?_, ?_⟩
  · have := depth_encs hs
    simp only [PyData.depth]
    omega
  · simp only [PyData.eqv]
    rw [eqvs_enc]
    exact hq
def made6 : List String := ["pair", "lock", "shut", "seal", "print", "pub"]
theorem made_all : ∀ s ∈ made6, ((made6.map Str.ofString).any fun w => decide (w = Str.ofString s)) = true := by decide +kernel
theorem made_yes {t : Te} (h : t.parts ≠ []) : ((made6.map Str.ofString).any fun w => decide (w = Str.ofString t.word)) = true := made_all _ (by cases t <;> first | exact absurd rfl h | simp [Te.word, made6])
theorem made_none : ∀ s ∈ ["name", "new", "own", "var"], ((made6.map Str.ofString).any fun w => decide (w = Str.ofString s)) = false := by decide +kernel
theorem made_no {t : Te} (h : t.parts = []) : ((made6.map Str.ofString).any fun w => decide (w = Str.ofString t.word)) = false := made_none _ (by cases t <;> first | (simp [Te.parts] at h; done) | simp [Te.word])
def words10 : List String := ["name", "new", "own", "var", "pair", "lock", "seal", "shut", "print", "pub"]
theorem words_inj : ∀ a ∈ words10, ∀ b ∈ words10, Str.ofString a = Str.ofString b → a = b := by decide +kernel
theorem word_in (t : Te) : t.word ∈ words10 := by cases t <;> simp [Te.word, words10]
theorem word_eq {t : Te} {w : String} (hw : w ∈ words10 := by decide) : (V.str (Str.ofString t.word) = V.str (Str.ofString w)) = (t.word = w) := propext ⟨fun h => words_inj _ (word_in t) _ hw (V.str.inj h), fun h => by rw [h]⟩
end WW

set_option maxHeartbeats 4000000
namespace WW
open PySem PySem.Spec PyProof.Rows L2
local macro_rules | `(tactic| walk_at "x") => `(tactic| simp only [tSeq, tNext, tAsg, gName, tRet, tRetN, tIfS, tOp, tUn, rI, rI0, rU, tTest, tB, tAnd, tOr, tNot, tAndV, tOrV, tNotV, tIf, tCons, tNil, tTup, tLst, tCall, tCallS, tMeth, tMake, tFld, sFld, tBM, tBM0, tCB, tSl, tPart, tNoPart, tDrop, tPar, tPar3, tAug, ipI, gTup, gCons, gNil, gSub, rSetL, rAppend, rPop, rIxL, rIxS, rIxT, rEq, rNe, tChain, tNever, tThen, tVar, tC, L2.start, List.map_cons, List.map_nil, List.length_cons, List.length_nil, List.replicate_succ, List.replicate_zero, List.append_nil, List.nil_append, List.cons_append, Nat.reduceAdd, Nat.reduceSub, Nat.add_zero, Nat.zero_add, Nat.sub_zero, Nat.sub_self,
  List.getElem?_cons_zero, List.getElem?_cons_succ, Option.some.injEq, exists_eq_left', exists_eq_left, exists_eq', exists_eq, exists_and_left, List.set_cons_zero, List.set_cons_succ, V.int.injEq, V.bl.injEq, V.str.injEq, V.ref.injEq, V.ty.injEq, List.cons.injEq, and_true, true_and, and_assoc, if_true, if_false, Bool.false_eq_true, reduceCtorEq, false_and, and_false, exists_false, false_or, or_false, Bool.not_true, Bool.not_false, decide_eq_true_eq, ite_true, ite_false, WE, cxOf_K, cxOf_mg, rSlS, scal, wipe, mem_low, mem_dig, mem_brk, mem_brk4, sgn_inj, Bool.decide_eq_true])

def spCheckL : Sp := fun vs H Q _ => ∃ (n p : Nat), vs = [.int (n : Nat), .int (p : Nat)] ∧ p < n ∧ Q (.bl true) H
def rdH : How → Bool
  | .first => true | .second => true | .read => true | .op => true | _ => false
def spSays (K : PySem.W.Frag) : Sp := fun vs H Q _ => ∃ a us known t h hs, vs = [.str (Str.ofString h.str), .ref a] ∧ H a = some (.lst us) ∧ Trs K H us hs ∧ stp known t h hs ∧ rdH h = true ∧ (∀ u ∈ hs, u.ok) ∧ ∀ v H', Same H H' → Tr K H' v t → Q v H'
section
variable {P : Program} {w : World} {K : PySem.W.Frag} {mg : Str → Option Value} {base : Heap}
def spLineH (K : PySem.W.Frag) : Sp := fun vs H Q _ => ∃ a xs known f us fs x pl r, vs = [.ref a, .ref f, x] ∧ SqA K H a xs ∧ Trs K H xs known ∧ H f = some (.lst us) ∧ Trs K H us fs ∧ Dp K H x (lineD pl r) ∧ (∀ t ∈ known, t.ok) ∧ (∀ t ∈ fs, t.ok) ∧ r.1.ok ∧
  stp known r.1 r.2.1 r.2.2 ∧ (∀ p ∈ r.2.2, fs[ixE pl p]? = some p) ∧ fs.length ≤ 1000 ∧ ∀ H', Same H H' → Q (.bl true) H'
end
end WW

set_option maxHeartbeats 4000000
namespace WW
open PySem PySem.Spec PyProof.Rows L2
local macro_rules | `(tactic| walk_at "x") => `(tactic| simp only [tSeq, tNext, tAsg, gName, tRet, tRetN, tIfS, tOp, tUn, rI, rI0, rU, tTest, tB, tAnd, tOr, tNot, tAndV, tOrV, tNotV, tIf, tCons, tNil, tTup, tLst, tCall, tCallS, tMeth, tMake, tFld, sFld, tBM, tBM0, tCB, tSl, tPart, tNoPart, tDrop, tPar, tPar3, tAug, ipI, gTup, gCons, gNil, gSub, rSetL, rAppend, rPop, rIxL, rIxS, rIxT, rEq, rNe, tChain, tNever, tThen, tVar, tC, L2.start, List.map_cons, List.map_nil, List.length_cons, List.length_nil, List.replicate_succ, List.replicate_zero, List.append_nil, List.nil_append, List.cons_append, Nat.reduceAdd, Nat.reduceSub, Nat.add_zero, Nat.zero_add, Nat.sub_zero, Nat.sub_self,
  List.getElem?_cons_zero, List.getElem?_cons_succ, Option.some.injEq, exists_eq_left', exists_eq_left, exists_eq', exists_eq, exists_and_left, List.set_cons_zero, List.set_cons_succ, V.int.injEq, V.bl.injEq, V.str.injEq, V.ref.injEq, V.ty.injEq, List.cons.injEq, and_true, true_and, and_assoc, if_true, if_false, Bool.false_eq_true, reduceCtorEq, false_and, and_false, exists_false, false_or, or_false, Bool.not_true, Bool.not_false, decide_eq_true_eq, ite_true, ite_false, WE, cxOf_K, cxOf_mg, rSlS, scal, wipe, mem_low, mem_dig, mem_brk, mem_brk4, sgn_inj, Bool.decide_eq_true])

theorem Valid.at {known : List Te} {lines : List Row} (v : Valid known lines) (hn : (rts lines).Nodup) {i : Nat} {r : Row} (h : lines[i]? = some r) {p : Te} (hp : p ∈ r.2.2) : (rts (lines.take i))[ixE (rts lines) p]? = some p := by
  have h3 := (v i r h).2 p hp
  rw [rts_take] at h3 ⊢
  obtain ⟨j, hj, e⟩ := List.getElem_of_mem h3
  have hj' := hj
  rw [List.length_take] at hj'
  have e2 := e
  rw [List.getElem_take] at e2
  have : ixE (rts lines) p = j := nodup_ix hn (by rw [List.getElem?_eq_getElem (by omega), e2])
  rw [this, List.getElem?_eq_getElem hj, e]
def mal (K : PySem.W.Frag) : Value := .ref (He.ga K "Malformed")
def spIsDer (K : PySem.W.Frag) : Sp := fun vs H Q _ => ∃ a xs known wv wanted p lvs lines, vs = [.ref a, wv, .ref p] ∧ SqA K H a xs ∧ Trs K H xs known ∧ Tr K H wv wanted ∧ SqT K H p lvs ∧ DpAll K H lvs (lines.map (lineD (rts lines))) ∧
  Valid known lines ∧ (rts lines).Nodup ∧ (∀ t ∈ known, t.ok) ∧ (∀ t ∈ rts lines, t.ok) ∧ wanted.ok ∧ lines.length ≤ 400 ∧ (∃ ls hw hs, lines = ls ++ [(wanted, hw, hs)]) ∧ ∀ H', Same H H' → Q (.bl true) H'
/-- proper terms go through, what is told else is refused -/
def okD (d : PyData) : Prop := okS d = true ∧ d.canLay0 = true ∧ (imm d = true ∨ partsD d = none)
inductive OddT (K : PySem.W.Frag) (H : Hp) : V → Prop
  | other {x : V} {d : PyData} : Dp K H x d → isa d "tuple" = false → OddT K H x
  | known {a : Addr} {xs : List V} {ds : List PyData} : SqT K H a xs → DpAll K H xs ds → (∀ d ∈ ds, okD d) → ds.length ≤ 1000 → (ds.any fun d => !growD 14 80 d) = true → OddT K H (.ref a)
inductive OddK (K : PySem.W.Frag) (H : Hp) : V → V → Prop
  | odd {x y : V} : OddT K H x → OddK K H x y
  | wanted {a : Addr} {y : V} {d : PyData} : SqT K H a [] → Dp K H y d → okD d → growD 14 80 d = false → OddK K H (.ref a) y
theorem OddT.same {K : PySem.W.Frag} {H H' : Hp} {x : V} (s : Same H H') (h : OddT K H x) : OddT K H' x := by
  cases h with
  | other h1 h2 => exact .other (Dp.sm s _ _ h1) h2
  | known h1 h2 h3 h4 h5 => exact .known ((Tx.of s).sqt h1) (Dp.sms s _ _ h2) h3 h4 h5
theorem OddK.same {K : PySem.W.Frag} {H H' : Hp} {x y : V} (s : Same H H') (h : OddK K H x y) : OddK K H' x y := by
  cases h with
  | odd h1 => exact .odd (h1.same s)
  | wanted h1 h2 h3 h4 => exact .wanted ((Tx.of s).sqt h1) (Dp.sm s _ _ h2) h3 h4
def spCheckK (K : PySem.W.Frag) : Sp := fun vs H Q E =>
  (∃ a xs known wv wanted, vs = [.ref a, wv] ∧ SqT K H a xs ∧ Trs K H xs known ∧ Tr K H wv wanted ∧ (∀ t ∈ known, t.ok ∧ t.size ≤ 80) ∧ wanted.ok ∧ wanted.size ≤ 80 ∧ known.length ≤ 1000 ∧ ∀ H', Same H H' → Q .non H') ∨
  (∃ x y, vs = [x, y] ∧ OddK K H x y ∧ ∀ H', Same H H' → E (mal K) none H')
def spCheckT (K : PySem.W.Frag) : Sp := fun vs H Q E =>
  (∃ a xs known, vs = [.ref a] ∧ SqT K H a xs ∧ Trs K H xs known ∧ (∀ t ∈ known, t.ok ∧ t.size ≤ 80) ∧ known.length ≤ 1000 ∧ ∀ H', Same H H' → Q .non H') ∨
  (∃ x, vs = [x] ∧ OddT K H x ∧ ∀ H', Same H H' → E (mal K) none H')
section
variable {P : Program} {w : World} {K : PySem.W.Frag} {mg : Str → Option Value} {base : Heap}
theorem o_check_known (W : Wd fa fn K mg) : OkF P w K mg base d_check_known 60 ["known", "wanted"] (spCheckK K) := by
  have o_is_term := (o_is_term (P := P) (w := w) (base := base) W).mono (show 4 ≤ 59 by decide)
  obtain ⟨fd_is_term, F_is_term, b_is_term, k_is_term⟩ := o_is_term.ex
  refine okf W (d := d_check_known) 9 sc_check_known rfl rfl (fun _ _ _ _ _ _ us hl => match us, hl with | [_, _], _ => rfl) ?len (fun cdv A outer s H vs Q E hr nd hu tk po h => ?body)
  case len =>
    rintro vs H Q E (⟨_, _, _, _, _, rfl, _⟩ | ⟨_, _, rfl, _⟩) <;> rfl
  case body =>
    refine ⟨_, (pss_one (ps_if (PW.pt (pw_or (pt_not (pt_val (pe_callB call_isiV (by rfl) (W.free 0) (by decide +kernel) (pa_cons (pv 0) (pa_cons (pe_bltn (v := .ty "tuple") (u := .type "tuple") rfl (W.free 14) (by decide +kernel) rfl) pa_nil))))) (pw_or (pt_not (pt_val (pe_callB (cr_all rfl) (by rfl) (W.free 3) (by decide +kernel) (pa_cons (pe_lc (own := [("term", 2)]) (g := (gName 2)) (tt := tYes) rfl nd (pi_tup (pv 0)) (blkOk_by (own := [("term", 2)]) (N := ["known", "wanted", "term"]) (sc := defScope s_check_known) (by decide +kernel)) (fun _ _ _ _ _ => (pg_name (i := 2) nd rfl (by first | exact Or.inl rfl | exact Or.inr rfl))) (fun _ _ _ _ _ => pts_nil) (fun _ _ _ _ _ => (pe_call F_is_term (hr.mono (by first | decide | omega)) rfl (W.glo 24) k_is_term b_is_term .nil passL (pa_cons (pv 2) pa_nil)))) pa_nil)))) (pw_or1 (pt_not (pt_val (by exact (pe_callS F_is_term (hr.mono (by first | decide | omega)) rfl (W.glo 24) k_is_term b_is_term (fun σ => passAt tk σ) (by exact (pa_cons (pv 1) pa_nil)))))))))) (pss_one (ps_raise rfl tk (W.pmk 25 26 rfl))) pss_nil)), ?_⟩
    have szl := sizeLine_eq
    rcases h with ⟨a, xs, known, wv, wanted, rfl, ha, hx, hw, okk, okw, szw, hln, hq⟩ | ⟨x, y, rfl, hodd, hq⟩
    · clear tk po
      walk_at "x"
      simp only [rIsaV]
      walk_at "x"
      refine ⟨by decide, true, .inr ⟨_, ha, rfl⟩, iteF ?_⟩
      have hxl := hx.len
      refine tLc_map (walk_tup (K := K) (a := a) (xs := xs)) (by omega) (fun R hR => ⟨_, rfl, a, rfl, ⟨_, ha⟩, hR⟩) (fun H' s => (Tx.of s).sqt ha) (fun _ => rfl) (fun i H y => y = .bl true) (fun _ _ _ _ _ h => h) ?_ ?_
      · intro i x H2 R hi hxi s2 hR
        obtain ⟨t, ht, hv⟩ := hx.get hxi
        obtain ⟨tok, tsz⟩ := okk t (List.mem_of_getElem? ht)
        walk_at "x"
        refine ⟨x, t.enc, rfl, Tr.sm s2 hv, okS_enc t, lay_enc t, .inl (imm_enc t), fun H3 s3 => ?_⟩
        rw [isTerm_enc tsz (by have := tok.2; omega)]
        exact hR _ _ s3 rfl
      intro D1 ys1 H2 s2 hD1 hys1 hyl1 hall1
      have e1 := bls_of (f := fun _ => true) hyl1 (fun i y h => hall1 i y h)
      refine ⟨D1, _, rfl, by rw [← e1]; exact SqL.of hys1, ?_⟩
      rw [all_of, decide_eq_true (fun _ _ => rfl)]
      refine ⟨_, rfl, iteF ⟨wv, wanted.enc, rfl, Tr.sm s2 hw, okS_enc _, lay_enc _, .inl (imm_enc _), fun H3 s3 => ?_⟩⟩
      rw [isTerm_enc szw (by have := okw.2; omega)]
      exact ⟨_, rfl, iteF (hq _ (Same.trans s2 s3))⟩
    · clear tk po
      walk_at "x"
      simp only [rIsaV]
      walk_at "x"
      cases hodd with
      | odd ho =>
        cases ho with
        | @other _ d hd hi =>
          refine ⟨by decide, _, IsaV.of hd, ?_⟩
          rw [hi]
          exact iteT (hq _ (Same.refl _))
        | @known a xs ds ha hx hok hln hany =>
          refine ⟨by decide, true, .inr ⟨_, ha, rfl⟩, iteF ?_⟩
          have hxl := DpAll.length hx
          refine tLc_map (walk_tup (K := K) (a := a) (xs := xs)) (by omega) (fun R hR => ⟨_, rfl, a, rfl, ⟨_, ha⟩, hR⟩) (fun H' s => (Tx.of s).sqt ha) (fun _ => rfl) (fun i H y => ∀ d, ds[i]? = some d → y = .bl (growD 14 80 d)) (fun _ _ _ _ _ h => h) ?_ ?_
          · intro i x H2 R hi hxi s2 hR
            obtain ⟨d, hd, hv⟩ := DpAll.get hx hxi
            obtain ⟨o1, o2, o3⟩ := hok d (List.mem_of_getElem? hd)
            walk_at "x"
            refine ⟨x, d, rfl, Dp.sm s2 _ _ hv, o1, o2, o3, fun H3 s3 => hR _ _ s3 fun d' e => ?_⟩
            rw [hd] at e
            cases e
            rfl
          intro D1 ys1 H2 ss1 hD1 hys1 hyl1 hall1
          have e1 : ys1 = (ds.map (growD 14 80)).map V.bl := by
            apply List.ext_getElem?
            intro i
            by_cases hi : i < ys1.length
            · have hi2 : i < ds.length := by omega
              rw [List.getElem?_eq_getElem hi, List.getElem?_map, List.getElem?_map, List.getElem?_eq_getElem hi2]
              rw [hall1 i _ (List.getElem?_eq_getElem hi) _ (List.getElem?_eq_getElem hi2)]
              rfl
            · rw [List.getElem?_eq_none (by omega), List.getElem?_eq_none (by simp; omega)]
          refine ⟨D1, _, rfl, by rw [← e1]; exact SqL.of hys1, ?_⟩
          have e2 : (ds.map (growD 14 80)).all id = false := by
            obtain ⟨d, hd, e⟩ := List.any_eq_true.mp hany
            rw [List.all_eq_false]
            exact ⟨_, List.mem_map_of_mem hd, by simpa using e⟩
          rw [e2]
          exact ⟨_, rfl, iteT (hq _ ss1)⟩
      | @wanted a _ d ha hd hok hg =>
        refine ⟨by decide, true, .inr ⟨_, ha, rfl⟩, iteF ?_⟩
        refine tLc_map (walk_tup (K := K) (a := a) (xs := [])) (by simp) (fun R hR => ⟨_, rfl, a, rfl, ⟨_, ha⟩, hR⟩) (fun H' s => (Tx.of s).sqt ha) (fun _ => rfl) (fun i H y => y = .bl true) (fun _ _ _ _ _ h => h) ?_ ?_
        · intro i x H2 R hi hxi s2 hR
          simp at hi
        intro D1 ys1 H2 s2 hD1 hys1 hyl1 hall1
        have e1 := bls_of (f := fun _ => true) hyl1 (fun i y h => hall1 i y h)
        refine ⟨D1, _, rfl, by rw [← e1]; exact SqL.of hys1, ?_⟩
        rw [all_of, decide_eq_true (fun _ _ => rfl)]
        obtain ⟨o1, o2, o3⟩ := hok
        refine ⟨_, rfl, iteF ⟨y, d, rfl, Dp.sm s2 _ _ hd, o1, o2, o3, fun H3 s3 => ?_⟩⟩
        rw [hg]
        exact ⟨_, rfl, iteT (hq _ (Same.trans s2 s3))⟩
theorem o_check_terms (W : Wd fa fn K mg) : OkF P w K mg base d_check_terms 60 ["known"] (spCheckT K) := by
  have o_is_term := (o_is_term (P := P) (w := w) (base := base) W).mono (show 4 ≤ 59 by decide)
  obtain ⟨fd_is_term, F_is_term, b_is_term, k_is_term⟩ := o_is_term.ex
  refine okf W (d := d_check_terms) 24 sc_check_terms rfl rfl (fun _ _ _ _ _ _ us hl => match us, hl with | [_], _ => rfl) ?len (fun cdv A outer s H vs Q E hr nd hu tk po h => ?body)
  case len =>
    rintro vs H Q E (⟨_, _, _, rfl, _⟩ | ⟨_, rfl, _⟩) <;> rfl
  case body =>
    refine ⟨_, (pss_one (ps_if (PW.pt (pw_or (pt_not (pt_val (pe_callB call_isiV (by rfl) (W.free 0) (by decide +kernel) (pa_cons (pv 0) (pa_cons (pe_bltn (v := .ty "tuple") (u := .type "tuple") rfl (W.free 14) (by decide +kernel) rfl) pa_nil))))) (pw_or1 (pt_not (pt_val (pe_callB (cr_all rfl) (by rfl) (W.free 3) (by decide +kernel) (pa_cons (pe_lc (own := [("term", 1)]) (g := (gName 1)) (tt := tYes) rfl nd (pi_tup (pv 0)) (blkOk_by (own := [("term", 1)]) (N := ["known", "term"]) (sc := defScope s_check_terms) (by decide +kernel)) (fun _ _ _ _ _ => (pg_name (i := 1) nd rfl (by first | exact Or.inl rfl | exact Or.inr rfl))) (fun _ _ _ _ _ => pts_nil) (fun _ _ _ _ _ => (pe_call F_is_term (hr.mono (by first | decide | omega)) rfl (W.glo 24) k_is_term b_is_term .nil passL (pa_cons (pv 1) pa_nil)))) pa_nil))))))) (pss_one (ps_raise rfl tk (W.pmk 25 26 rfl))) pss_nil)), ?_⟩
    have szl := sizeLine_eq
    rcases h with ⟨a, xs, known, rfl, ha, hx, okk, hln, hq⟩ | ⟨x, rfl, hodd, hq⟩
    · clear tk po
      walk_at "x"
      simp only [rIsaV]
      walk_at "x"
      refine ⟨by decide, true, .inr ⟨_, ha, rfl⟩, iteF ?_⟩
      have hxl := hx.len
      refine tLc_map (walk_tup (K := K) (a := a) (xs := xs)) (by omega) (fun R hR => ⟨_, rfl, a, rfl, ⟨_, ha⟩, hR⟩) (fun H' s => (Tx.of s).sqt ha) (fun _ => rfl) (fun i H y => y = .bl true) (fun _ _ _ _ _ h => h) ?_ ?_
      · intro i x H2 R hi hxi s2 hR
        obtain ⟨t, ht, hv⟩ := hx.get hxi
        obtain ⟨tok, tsz⟩ := okk t (List.mem_of_getElem? ht)
        walk_at "x"
        refine ⟨x, t.enc, rfl, Tr.sm s2 hv, okS_enc t, lay_enc t, .inl (imm_enc t), fun H3 s3 => ?_⟩
        rw [isTerm_enc tsz (by have := tok.2; omega)]
        exact hR _ _ s3 rfl
      intro D1 ys1 H2 s2 hD1 hys1 hyl1 hall1
      have e1 := bls_of (f := fun _ => true) hyl1 (fun i y h => hall1 i y h)
      refine ⟨D1, _, rfl, by rw [← e1]; exact SqL.of hys1, ?_⟩
      rw [all_of, decide_eq_true (fun _ _ => rfl)]
      exact ⟨_, rfl, iteF (hq _ s2)⟩
    · clear tk po
      walk_at "x"
      simp only [rIsaV]
      walk_at "x"
      cases hodd with
      | @other _ d hd hi =>
        refine ⟨by decide, _, IsaV.of hd, ?_⟩
        rw [hi]
        exact iteT (hq _ (Same.refl _))
      | @known a xs ds ha hx hok hln hany =>
        refine ⟨by decide, true, .inr ⟨_, ha, rfl⟩, iteF ?_⟩
        have hxl := DpAll.length hx
        refine tLc_map (walk_tup (K := K) (a := a) (xs := xs)) (by omega) (fun R hR => ⟨_, rfl, a, rfl, ⟨_, ha⟩, hR⟩) (fun H' s => (Tx.of s).sqt ha) (fun _ => rfl) (fun i H y => ∀ d, ds[i]? = some d → y = .bl (growD 14 80 d)) (fun _ _ _ _ _ h => h) ?_ ?_
        · intro i x H2 R hi hxi s2 hR
          obtain ⟨d, hd, hv⟩ := DpAll.get hx hxi
          obtain ⟨o1, o2, o3⟩ := hok d (List.mem_of_getElem? hd)
          walk_at "x"
          refine ⟨x, d, rfl, Dp.sm s2 _ _ hv, o1, o2, o3, fun H3 s3 => hR _ _ s3 fun d' e => ?_⟩
          rw [hd] at e
          cases e
          rfl
        intro D1 ys1 H2 ss1 hD1 hys1 hyl1 hall1
        have e1 : ys1 = (ds.map (growD 14 80)).map V.bl := by
          apply List.ext_getElem?
          intro i
          by_cases hi : i < ys1.length
          · have hi2 : i < ds.length := by omega
            rw [List.getElem?_eq_getElem hi, List.getElem?_map, List.getElem?_map, List.getElem?_eq_getElem hi2]
            rw [hall1 i _ (List.getElem?_eq_getElem hi) _ (List.getElem?_eq_getElem hi2)]
            rfl
          · rw [List.getElem?_eq_none (by omega), List.getElem?_eq_none (by simp; omega)]
        refine ⟨D1, _, rfl, by rw [← e1]; exact SqL.of hys1, ?_⟩
        have e2 : (ds.map (growD 14 80)).all id = false := by
          obtain ⟨d, hd, e⟩ := List.any_eq_true.mp hany
          rw [List.all_eq_false]
          exact ⟨_, List.mem_map_of_mem hd, by simpa using e⟩
        rw [e2]
        exact ⟨_, rfl, iteT (hq _ ss1)⟩
end
end WW

set_option maxHeartbeats 4000000
namespace WW
open PySem PySem.Spec PyProof.Rows L2
local macro_rules | `(tactic| walk_at "x") => `(tactic| simp only [tSeq, tNext, tAsg, gName, tRet, tRetN, tIfS, tOp, tUn, rI, rI0, rU, tTest, tB, tAnd, tOr, tNot, tAndV, tOrV, tNotV, tIf, tCons, tNil, tTup, tLst, tCall, tCallS, tMeth, tMake, tFld, sFld, tBM, tBM0, tCB, tSl, tPart, tNoPart, tDrop, tPar, tPar3, tAug, ipI, gTup, gCons, gNil, gSub, rSetL, rAppend, rPop, rIxL, rIxS, rIxT, rEq, rNe, tChain, tNever, tThen, tVar, tC, L2.start, List.map_cons, List.map_nil, List.length_cons, List.length_nil, List.replicate_succ, List.replicate_zero, List.append_nil, List.nil_append, List.cons_append, Nat.reduceAdd, Nat.reduceSub, Nat.add_zero, Nat.zero_add, Nat.sub_zero, Nat.sub_self,
  List.getElem?_cons_zero, List.getElem?_cons_succ, Option.some.injEq, exists_eq_left', exists_eq_left, exists_eq', exists_eq, exists_and_left, List.set_cons_zero, List.set_cons_succ, V.int.injEq, V.bl.injEq, V.str.injEq, V.ref.injEq, V.ty.injEq, List.cons.injEq, and_true, true_and, and_assoc, if_true, if_false, Bool.false_eq_true, reduceCtorEq, false_and, and_false, exists_false, false_or, or_false, Bool.not_true, Bool.not_false, decide_eq_true_eq, ite_true, ite_false, WE, cxOf_K, cxOf_mg, rSlS, scal, wipe, mem_low, mem_dig, mem_brk, mem_brk4, sgn_inj, Bool.decide_eq_true])

def spTakesD (K : PySem.W.Frag) : Sp := fun vs H Q _ => ∃ a xs known wv wanted p lvs lines, vs = [.ref a, wv, .ref p] ∧ SqT K H a xs ∧ Trs K H xs known ∧ Tr K H wv wanted ∧ SqT K H p lvs ∧ DpAll K H lvs (lines.map (lineD (rts lines))) ∧
  Valid known lines ∧ (rts lines).Nodup ∧ (∀ t ∈ known, t.ok ∧ t.size ≤ 80) ∧ known.length ≤ 1000 ∧ (∀ t ∈ rts lines, t.ok) ∧ wanted.ok ∧ wanted.size ≤ 80 ∧ lines.length ≤ 400 ∧ (∃ ls hw hs, lines = ls ++ [(wanted, hw, hs)]) ∧ ∀ H', Same H H' → Q (.bl true) H'
/-- a dict by the texts of terms -/
def HadAt (H : Hp) (D : Addr) (ts : List Te) : Prop := ∃ vs, H D = some (.dK (dkE ts vs)) ∧ ts.length = vs.length ∧ ts.Nodup
theorem HadAt.same {H H' : Hp} {D : Addr} {ts : List Te} (s : Same H H') (h : HadAt H D ts) : HadAt H' D ts := by
  obtain ⟨vs, h1, h2⟩ := h
  exact ⟨vs, s _ _ h1, h2⟩
def spMakes (K : PySem.W.Frag) : Sp := fun vs H Q _ => ∃ x t D ts, vs = [x, .ref D] ∧ Tr K H x t ∧ t.ok ∧ HadAt H D ts ∧ ∀ (b : Bool) H', (b = true ↔ makes (fun t => t ∈ ts) t) → Same H H' → Q (.bl b) H'
def spTakes (K : PySem.W.Frag) : Sp := fun vs H Q _ => ∃ x t D ts, vs = [x, .ref D] ∧ Tr K H x t ∧ t.ok ∧ HadAt H D ts ∧ ∀ p us ms H', (∀ m, m ∈ ms ↔ takes (fun t => t ∈ ts) t m) → ms.length ≤ 2 → Same H H' → H p = none → H' p = some (.lst us) → Trs K H' us ms → Q (.ref p) H'
theorem tIn {H : Hp} {D : Addr} {ts : List Te} (h : HadAt H D ts) (t : Te) {R : VK} (hr : R (.bl (decide (t ∈ ts))) H) : ∃ a o, V.ref D = .ref a ∧ DGet H a (.str (S (wS t.enc))) o ∧ R (.bl o.isSome) H := by
  obtain ⟨vs, h1, h2, h3⟩ := h
  refine ⟨D, _, rfl, DGet.k h1 (k := kE t), ?_⟩
  rw [dkE_has h2 h3]
  exact hr
theorem dIn {H : Hp} {D : Addr} {ts : List Te} (h : HadAt H D ts) (t : Te) {R : VK} (hr : R (.bl (decide (t ∈ ts))) H) : ∃ o, DGet H D (.str (S (wS t.enc))) o ∧ R (.bl o.isSome) H := by
  obtain ⟨vs, h1, h2, h3⟩ := h
  refine ⟨_, DGet.k h1 (k := kE t), ?_⟩
  rw [dkE_has h2 h3]
  exact hr
theorem dNotIn {H : Hp} {D : Addr} {ts : List Te} (h : HadAt H D ts) (t : Te) {R : VK} (hr : R (.bl (!decide (t ∈ ts))) H) : ∃ o, DGet H D (.str (S (wS t.enc))) o ∧ R (.bl (!o.isSome)) H := by
  obtain ⟨vs, h1, h2, h3⟩ := h
  refine ⟨_, DGet.k h1 (k := kE t), ?_⟩
  rw [dkE_has h2 h3]
  exact hr
theorem tNotIn {H : Hp} {D : Addr} {ts : List Te} (h : HadAt H D ts) (t : Te) {R : VK} (hr : R (.bl (!decide (t ∈ ts))) H) : ∃ a o, V.ref D = .ref a ∧ DGet H a (.str (S (wS t.enc))) o ∧ R (.bl (!o.isSome)) H := by
  obtain ⟨vs, h1, h2, h3⟩ := h
  refine ⟨D, _, rfl, DGet.k h1 (k := kE t), ?_⟩
  rw [dkE_has h2 h3]
  exact hr
def Te.key : Te → Option Te
  | .lock _ q => some q
  | .shut _ q => some q
  | _ => none
theorem keyD_enc (t : Te) : keyD t.enc = t.key.map Te.enc := by
  cases t <;> first | rfl | (simp only [Te.enc, keyD, Te.key, Option.map]; first | rw [if_pos (by decide +kernel)] | rw [if_neg (by decide +kernel), if_pos (by decide +kernel)] | rw [if_neg (by decide +kernel), if_neg (by decide +kernel)])
theorem wY {t : Te} {w : String} (h : t.word = w) : V.str (Str.ofString t.word) = V.str (Str.ofString w) := by rw [h]
theorem wN {t : Te} {w : String} (h : t.word ≠ w) (hw : w ∈ words10 := by decide) : ¬ V.str (Str.ofString t.word) = V.str (Str.ofString w) := fun e => h (by rwa [word_eq hw] at e)
theorem key_part {t k : Te} (h : t.key = some k) : k ∈ t.parts ∨ .pub k ∈ t.parts := by
  cases t <;> simp [Te.key] at h <;> simp [Te.parts, h]
theorem key_ok {t k : Te} (h : t.key = some k) (g : t.ok) : k.ok := by
  rcases key_part h with q | q
  · exact g.part q
  · exact (g.part q).part (by simp [Te.parts])
section
variable {P : Program} {w : World} {K : PySem.W.Frag} {mg : Str → Option Value} {base : Heap}
end
end WW

set_option maxHeartbeats 4000000
namespace WW
open PySem PySem.Spec PyProof.Rows L2
/-! ### all and any of a comprehension over terms -/
theorem bls_list {ys : List V} {bs : List Bool} (h : ys.length = bs.length) (g : ∀ (i : Nat) (y : V) (b : Bool), ys[i]? = some y → bs[i]? = some b → y = .bl b) : ys = bs.map V.bl := by
  apply List.ext_getElem?
  intro i
  by_cases hi : i < ys.length
  · have hi2 : i < bs.length := by omega
    rw [List.getElem?_eq_getElem hi, List.getElem?_map, List.getElem?_eq_getElem hi2, g i _ _ (List.getElem?_eq_getElem hi) (List.getElem?_eq_getElem hi2)]
    rfl
  · rw [List.getElem?_eq_none (by omega), List.getElem?_eq_none (by simp; omega)]
theorem tBools {K : PySem.W.Frag} {J : It} {G : Hp → Prop} {xs : List V} {ts : List Te} {wi : TI} {te : TE} {vs : List Nat} {σ : L2.St} {H H1 : Hp} {Q : VK} {j : Nat} (wk : Walk J xs.length G (YAt xs)) (hn : xs.length ≤ 1000000) (hx : Trs K H1 xs ts)
    (hwi : ∀ R : It → Hp → Prop, R J H1 → wi σ H R) (hG : ∀ H', Same H1 H' → G H') (hw : ∀ x, wipe ((wipe σ vs).set j (some x)) vs = wipe σ vs) (p : Te → Bool)
    (he : ∀ t x H2 (R : VK), t ∈ ts → Tr K H2 x t → Same H1 H2 → (∀ H3, Same H2 H3 → R (.bl (p t)) H3) → te ((wipe σ vs).set j (some x)) H2 R)
    (hq : ∀ D H2, Same H1 H2 → H1 D = none → H2 D = some (.lst ((ts.map p).map V.bl)) → Q (.ref D) H2) : tLc wi (gName j) tYes te vs σ H Q := by
  have hxl := hx.len
  refine tLc_map wk hn hwi hG hw (fun i _ y => ∀ t, ts[i]? = some t → y = .bl (p t)) (fun _ _ _ _ _ h => h) ?_ ?_
  · intro i x H2 R hi hxi s2 hR
    obtain ⟨t, ht, hv⟩ := hx.get hxi
    refine he t x H2 R (List.mem_of_getElem? ht) (Tr.sm s2 hv) s2 fun H3 s3 => hR _ _ s3 fun t' e => ?_
    rw [ht] at e
    cases e
    rfl
  · intro D ys H2 s2 hD hys hyl hall
    have e : ys = (ts.map p).map V.bl := bls_list (by rw [List.length_map]; omega) fun i y b h1 h2 => by
      rw [List.getElem?_map] at h2
      obtain ⟨t, ht, rfl⟩ := Option.map_eq_some_iff.mp h2
      exact hall i y h1 t ht
    exact hq D H2 s2 hD (e ▸ hys)
theorem tAllT {K : PySem.W.Frag} {J : It} {G : Hp → Prop} {xs : List V} {ts : List Te} {wi : TI} {te : TE} {vs : List Nat} {σ : L2.St} {H H1 : Hp} {Q : VK} {j : Nat} (wk : Walk J xs.length G (YAt xs)) (hn : xs.length ≤ 1000000) (hx : Trs K H1 xs ts)
    (hwi : ∀ R : It → Hp → Prop, R J H1 → wi σ H R) (hG : ∀ H', Same H1 H' → G H') (hw : ∀ x, wipe ((wipe σ vs).set j (some x)) vs = wipe σ vs) (p : Te → Bool)
    (he : ∀ t x H2 (R : VK), t ∈ ts → Tr K H2 x t → Same H1 H2 → (∀ H3, Same H2 H3 → R (.bl (p t)) H3) → te ((wipe σ vs).set j (some x)) H2 R)
    (hq : ∀ H2, Same H1 H2 → Q (.bl (ts.all p)) H2) : tLc wi (gName j) tYes te vs σ H fun x H1 => rAll K [x] H1 Q := by
  refine tBools wk hn hx hwi hG hw p he fun D H2 s2 hD h2 => ⟨D, _, rfl, SqL.of h2, ?_⟩
  have : (ts.map p).all id = ts.all p := by rw [List.all_map]; rfl
  rw [this]
  exact hq H2 s2
theorem tAnyT {K : PySem.W.Frag} {J : It} {G : Hp → Prop} {xs : List V} {ts : List Te} {wi : TI} {te : TE} {vs : List Nat} {σ : L2.St} {H H1 : Hp} {Q : VK} {j : Nat} (wk : Walk J xs.length G (YAt xs)) (hn : xs.length ≤ 1000000) (hx : Trs K H1 xs ts)
    (hwi : ∀ R : It → Hp → Prop, R J H1 → wi σ H R) (hG : ∀ H', Same H1 H' → G H') (hw : ∀ x, wipe ((wipe σ vs).set j (some x)) vs = wipe σ vs) (p : Te → Bool)
    (he : ∀ t x H2 (R : VK), t ∈ ts → Tr K H2 x t → Same H1 H2 → (∀ H3, Same H2 H3 → R (.bl (p t)) H3) → te ((wipe σ vs).set j (some x)) H2 R)
    (hq : ∀ H2, Same H1 H2 → Q (.bl (ts.any p)) H2) : tLc wi (gName j) tYes te vs σ H fun x H1 => rAny K [x] H1 Q := by
  refine tBools wk hn hx hwi hG hw p he fun D H2 s2 hD h2 => ⟨D, _, rfl, SqL.of h2, ?_⟩
  have : (ts.map p).any id = ts.any p := by rw [List.any_map]; rfl
  rw [this]
  exact hq H2 s2
theorem it_raw {J : It} {n : Nat} {G : Hp → Prop} {Y : Nat → Hp → V → Hp → Prop} (w : Walk J n G Y) {B : V → Hp → (Hp → Prop) → Prop} {Qd : Hp → Prop} {H0 : Hp} (Pv : Nat → Hp → Prop) (h0 : Pv 0 H0) (hG : ∀ i H, i ≤ n → Pv i H → G H)
    (hs : ∀ i x H H', i < n → Pv i H → Y i H x H' → B x H' (Pv (i + 1))) (hd : ∀ H, Pv n H → Qd H) :
    ∃ W : Nat → Nat → Hp → Prop, (∃ m, W 0 m H0) ∧ ∀ i m H, W i m H → (J.stop i H ∧ Qd H) ∨ (J.go i H ∧ ∃ Nx : Hp → Prop, (∀ H', Nx H' → ∃ m', m' < m ∧ W (i + 1) m' H') ∧ ∀ x H', J.yld i H x H' → B x H' Nx) := by
  refine ⟨fun i m H => m = n - i ∧ i ≤ n ∧ Pv i H, ⟨n, by simp, Nat.zero_le _, h0⟩, ?_⟩
  rintro i m H ⟨rfl, hi, p⟩
  have q := hG i H hi p
  by_cases hlt : i < n
  · exact .inr ⟨w.goes i H hlt q, Pv (i + 1), fun H' p' => ⟨n - (i + 1), by omega, rfl, hlt, p'⟩, fun x H' y => hs i x H H' hlt p (w.yields i H x H' hlt q y)⟩
  · have e : i = n := by omega
    subst e
    exact .inl ⟨w.stops H q, hd H p⟩
/-- all([p(m) for t in ts for m in ms(t)]) -/
theorem tAll2 {K : PySem.W.Frag} {J : It} {G : Hp → Prop} {xs : List V} {ts : List Te} {wi wi1 : TI} {te : TE} {vs vs1 : List Nat} {σ : L2.St} {H H1 : Hp} {Q : VK} {j j1 : Nat} (wk : Walk J xs.length G (YAt xs)) (hn : xs.length ≤ 100000) (hx : Trs K H1 xs ts)
    (hwi : ∀ R : It → Hp → Prop, R J H1 → wi σ H R) (hG : ∀ H', Same H1 H' → G H') (hw : ∀ x, wipe ((wipe σ vs).set j (some x)) vs = wipe σ vs)
    (hw1 : ∀ x y, wipe ((wipe ((wipe σ vs).set j (some x)) vs1).set j1 (some y)) vs1 = wipe ((wipe σ vs).set j (some x)) vs1)
    (F : Te → List Te → Prop) (Gd : Te → Prop) (p : Te → Bool) (hF : ∀ t ms, F t ms → (Gd t ↔ ∀ m ∈ ms, p m = true))
    (hwi1 : ∀ t x H2 (R : It → Hp → Prop), t ∈ ts → Tr K H2 x t → Same H1 H2 → (∀ D us ms H3, Same H2 H3 → H2 D = none → F t ms → ms.length ≤ 2 → (∀ m ∈ ms, m.ok) → H3 D = some (.lst us) → Trs K H3 us ms → R (Itl K D) H3) → wi1 ((wipe σ vs).set j (some x)) H2 R)
    (he : ∀ m x y H2 (R : VK), m.ok → Tr K H2 y m → Same H1 H2 → (∀ H3, Same H2 H3 → R (.bl (p m)) H3) → te ((wipe ((wipe σ vs).set j (some x)) vs1).set j1 (some y)) H2 R)
    (hq : ∀ (b : Bool) H2, (b = true ↔ ∀ t ∈ ts, Gd t) → Same H1 H2 → Q (.bl b) H2) : tLc2 wi (gName j) tYes wi1 (gName j1) tYes te vs vs1 σ H fun x H1 => rAll K [x] H1 Q := by
  have szl := sizeLine_eq
  have hxl := hx.len
  refine hwi _ fun D hD => ?_
  refine it_raw wk (fun i H2 => Same H1 H2 ∧ ∃ bs : List Bool, H2 D = some (.lst (bs.map V.bl)) ∧ bs.length ≤ 2 * i ∧ (bs.all id = true ↔ ∀ t ∈ ts.take i, Gd t)) ⟨Same.new hD, [], upd_same, Nat.le_refl _, by simp⟩ (fun i H2 _ h => hG H2 h.1) ?_ ?_
  · rintro i x H2 H3 hi ⟨s2, bs, h2, hl, hb⟩ ⟨rfl, hxi⟩
    obtain ⟨t, ht, hv⟩ := hx.get hxi
    refine ⟨hw _, ?_⟩
    show tYes _ _ _
    unfold tYes
    refine iteT ?_
    refine hwi1 t x H3 _ (List.mem_of_getElem? ht) (Tr.sm s2 hv) s2 fun D1 us ms H4 s4 hD1n hFt hml hmo hD1 hus => ?_
    have hul := hus.len
    have hbs4 := s4 _ _ h2
    have sD := Same.trans s2 s4
    have eD : D ≠ D1 := fun e => by rw [e, hD1n] at h2; cases h2
    refine it_raw (walk_list (K := K) (a := D1) (xs := us)) (fun jj H5 => Same H1 H5 ∧ H5 D1 = some (.lst us) ∧ Trs K H5 us ms ∧ ∃ bs : List Bool, H5 D = some (.lst (bs.map V.bl)) ∧ bs.length ≤ 2 * i + jj ∧ (bs.all id = true ↔ (∀ t ∈ ts.take i, Gd t) ∧ ∀ m ∈ ms.take jj, p m = true)) ⟨sD, hD1, hus, bs, hbs4, by omega, by simp [hb]⟩ (fun jj H5 _ h => SqL.of h.2.1) ?_ ?_
    · rintro jj y H5 H6 hj ⟨s5, hD5, hus5, bs5, h5, hl5, hb5⟩ ⟨rfl, hy⟩
      obtain ⟨m, hm, hmv⟩ := hus5.get hy
      refine ⟨hw1 _ _, ?_⟩
      refine iteT ?_
      refine he m x y H6 _ (hmo m (List.mem_of_getElem? hm)) hmv s5 fun H7 s7 => ⟨_, s7 _ _ h5, by rw [List.length_map]; omega, ?_⟩
      have tX : Tx H7 (upd H7 D (.lst (bs5.map V.bl ++ [.bl (p m)]))) := Tx.up (s7 _ _ h5) noTup_l
      refine ⟨Same.mut (Same.trans s5 s7) hD, by rw [upd_ne eD.symm]; exact s7 _ _ hD5, (Trs.sm s7 hus5).tx tX, bs5 ++ [p m], by rw [upd_same]; simp, by rw [List.length_append, List.length_singleton]; omega, ?_⟩
      rw [List.all_append, Bool.and_eq_true, hb5, List.take_add_one, hm]
      simp only [List.all_cons, List.all_nil, Bool.and_true, id, Option.toList, List.mem_append, List.mem_singleton]
      constructor
      · rintro ⟨⟨a, b⟩, c⟩
        refine ⟨a, fun q hq => ?_⟩
        rcases hq with hq | rfl
        · exact b q hq
        · exact c
      · rintro ⟨a, b⟩
        exact ⟨⟨a, fun q hq => b q (.inl hq)⟩, b m (.inr rfl)⟩
    · rintro H5 ⟨s5, hD5, hus5, bs5, h5, hl5, hb5⟩
      rw [hul, List.take_length] at hb5
      refine ⟨s5, bs5, h5, by omega, ?_⟩
      rw [hb5, List.take_add_one, ht, ← hF t ms hFt]
      simp only [Option.toList, List.mem_append, List.mem_singleton]
      constructor
      · rintro ⟨a, b⟩ q hq
        rcases hq with hq | rfl
        · exact a q hq
        · exact b
      · intro a
        exact ⟨fun q hq => a q (.inl hq), a t (.inr rfl)⟩
  · rintro H2 ⟨s2, bs, h2, hl, hb⟩
    rw [hxl, List.take_length] at hb
    exact ⟨D, bs, rfl, SqL.of h2, hq _ H2 hb s2⟩
end WW

set_option maxHeartbeats 4000000
namespace WW
open PySem PySem.Spec PyProof.Rows L2
local macro_rules | `(tactic| walk_at "x") => `(tactic| simp only [tSeq, tNext, tAsg, gName, tRet, tRetN, tIfS, tOp, tUn, rI, rI0, rU, tTest, tB, tAnd, tOr, tNot, tAndV, tOrV, tNotV, tIf, tCons, tNil, tTup, tLst, tCall, tCallS, tMeth, tMake, tFld, sFld, tBM, tBM0, tCB, tSl, tPart, tNoPart, tDrop, tPar, tPar3, tAug, ipI, gTup, gCons, gNil, gSub, rSetL, rAppend, rPop, rIxL, rIxS, rIxT, rEq, rNe, tChain, tNever, tThen, tVar, tC, L2.start, List.map_cons, List.map_nil, List.length_cons, List.length_nil, List.replicate_succ, List.replicate_zero, List.append_nil, List.nil_append, List.cons_append, Nat.reduceAdd, Nat.reduceSub, Nat.add_zero, Nat.zero_add, Nat.sub_zero, Nat.sub_self,
  List.getElem?_cons_zero, List.getElem?_cons_succ, Option.some.injEq, exists_eq_left', exists_eq_left, exists_eq', exists_eq, exists_and_left, List.set_cons_zero, List.set_cons_succ, V.int.injEq, V.bl.injEq, V.str.injEq, V.ref.injEq, V.ty.injEq, List.cons.injEq, and_true, true_and, and_assoc, if_true, if_false, Bool.false_eq_true, reduceCtorEq, false_and, and_false, exists_false, false_or, or_false, Bool.not_true, Bool.not_false, decide_eq_true_eq, ite_true, ite_false, WE, cxOf_K, cxOf_mg, rSlS, scal, wipe, mem_low, mem_dig, mem_brk, mem_brk4, sgn_inj, Bool.decide_eq_true])

noncomputable abbrev evE (known : List Te) (wanted : Te) : List Te := subsT (known ++ [wanted])
def spIsBar (K : PySem.W.Frag) : Sp := fun vs H Q _ => ∃ a xs known wv wanted p vvs bs, vs = [.ref a, wv, .ref p] ∧ SqT K H a xs ∧ Trs K H xs known ∧ Tr K H wv wanted ∧ SqT K H p vvs ∧ Trs K H vvs bs ∧ (∀ t ∈ known, t.ok) ∧ wanted.ok ∧ known.length ≤ 8 ∧
  bs.Nodup ∧ ordE bs = bs ∧ wanted ∉ bs ∧ (∀ t ∈ bs, t ∈ evE known wanted) ∧
  ∀ (b : Bool) H', (b = true ↔ ((∀ t ∈ known, t ∈ bs) ∧ ∀ t, ¬ nxt (evE known wanted) (fun t => t ∈ bs) t)) → Same H H' → Q (.bl b) H'
theorem had_dc {K : PySem.W.Frag} {J : It} {G : Hp → Prop} {xs : List V} {ts : List Te} {wi : TI} {tk : TE} {vs : List Nat} {σ : L2.St} {H H1 : Hp} {Q : VK} {j : Nat} (wk : Walk J xs.length G (YAt xs)) (hn : xs.length ≤ 1000000) (hx : Trs K H1 xs ts) (hnd : ts.Nodup)
    (hwi : ∀ R : It → Hp → Prop, R J H1 → wi σ H R) (hG : ∀ H', Same H1 H' → G H') (hw : ∀ x, wipe ((wipe σ vs).set j (some x)) vs = wipe σ vs)
    (he : ∀ t x H2 (R : VK), t ∈ ts → Tr K H2 x t → Same H1 H2 → (∀ H3, Same H2 H3 → R (.str (S (wS t.enc))) H3) → tk ((wipe σ vs).set j (some x)) H2 R)
    (hq : ∀ D H2, Same H1 H2 → H1 D = none → HadAt H2 D ts → Q (.ref D) H2) : tDc wi (gName j) tYes tk (tC (.bl true)) vs σ H Q := by
  have szl := sizeLine_eq
  have hxl := hx.len
  refine hwi _ fun D hD => ?_
  refine dc_it wk (fun i H2 => Same H1 H2 ∧ ∃ us, us.length = i ∧ H2 D = some (.dK (dkE (ts.take i) us))) ⟨Same.new hD, [], rfl, upd_same⟩ (fun i H2 _ h => hG H2 h.1) ?_ ?_
  · rintro i x H2 H3 hi ⟨s2, us, hul, h2⟩ ⟨rfl, hxi⟩
    obtain ⟨t, ht, hv⟩ := hx.get hxi
    refine ⟨hw _, ?_⟩
    show tYes _ _ _
    unfold tYes
    refine iteT ?_
    refine he t x H3 _ (List.mem_of_getElem? ht) (Tr.sm s2 hv) s2 fun H4 s4 => ?_
    have hti : (ts.take i).length = us.length := by rw [List.length_take]; omega
    have hni : t ∉ ts.take i := fun h => by
      have h1 := nodup_ix hnd ht
      obtain ⟨k, hk, e⟩ := List.getElem_of_mem h
      rw [List.length_take] at hk
      rw [List.getElem_take] at e
      have := nodup_ix hnd (i := k) (t := t) (by rw [List.getElem?_eq_getElem (by omega), e])
      omega
    refine ⟨_, kE t, rfl, s4 _ _ h2, by rw [dkE_len hti, List.length_take]; omega, Same.mut (Same.trans s2 s4) hD, us ++ [.bl true], by simp [hul], ?_⟩
    rw [upd_same, dkE_put hti hni, List.take_add_one, ht]
    rfl
  · rintro H2 ⟨s2, us, hul, h2⟩
    rw [hxl, List.take_length] at h2
    exact hq D H2 s2 hD ⟨us, h2, by omega, hnd⟩
theorem sizes_le {ts : List Te} (h : ∀ t ∈ ts, t.ok) : sizes ts ≤ 100 * ts.length := by
  unfold sizes
  induction ts with
  | nil => simp
  | cons t ts ih =>
    have h1 := ih fun u hu => h u (List.mem_cons_of_mem _ hu)
    have h2 := (h t (List.mem_cons_self ..)).1
    simp only [List.map_cons, List.sum_cons, List.length_cons]
    omega
theorem subsT_ok {ts : List Te} (h : ∀ t ∈ ts, t.ok) : ∀ t ∈ subsT ts, t.ok := fun t ht => by
  obtain ⟨u, hu, hs⟩ := (subsT_mem ts t).mp ht
  exact hs.ok (h u hu)
theorem subsE_len : ∀ (f : Nat) (l found : List Te), (subsE f l found).length ≤ found.length + sizes l
  | 0, _, _ => by simp [subsE]
  | _ + 1, [], _ => by simp [subsE]
  | f + 1, t :: l, found => by
    have e : sizes (t :: l) = t.size + sizes l := by simp [sizes]
    have h0 := size_pos t
    simp only [subsE]
    split
    · have := subsE_len f l found
      omega
    · have := subsE_len f (t.parts ++ l) (found ++ [t])
      have h2 := parts_sizes t
      have h3 : sizes (t.parts ++ l) = sizes t.parts + sizes l := by simp [sizes]
      simp only [List.length_append, List.length_singleton] at this
      omega
theorem subsT_len (ts : List Te) : (subsT ts).length ≤ sizes ts := by
  have := subsE_len (szDs (ts.map Te.enc) + 1) ts []
  simpa [subsT] using this
noncomputable def makesB (ts : List Te) (t : Te) : Bool := @decide (makes (fun t => t ∈ ts) t) (Classical.propDecidable _)
theorem makesB_eq {ts : List Te} {t : Te} {b : Bool} (h : b = true ↔ makes (fun t => t ∈ ts) t) : b = makesB ts t := by
  unfold makesB
  rw [Bool.eq_iff_iff, h]
  exact (@decide_eq_true_iff _ (Classical.propDecidable _)).symm
theorem makesB_iff {ts : List Te} {t : Te} : makesB ts t = true ↔ makes (fun t => t ∈ ts) t := @decide_eq_true_iff _ (Classical.propDecidable _)
/-- a call of subterms_of on terms -/
theorem subs_call {K : PySem.W.Frag} {H : Hp} {a : Addr} {xs : List V} {ts : List Te} {Q : VK} {E : XK} (ha : SqA K H a xs) (hx : Trs K H xs ts) (hok : ∀ t ∈ ts, t.ok) (hl : ts.length ≤ 80) (hq : ∀ D us H', Same H H' → H D = none → H' D = some (.lst us) → Trs K H' us (subsT ts) → Q (.ref D) H') : spSubs K [.ref a] H Q E := by
  refine ⟨a, xs, ts.map Te.enc, rfl, ha, hx, fun d hd => ?_, ?_, fun D us H' s1 h1 h2 h3 => hq D us H' s1 h1 h2 ?_⟩
  · obtain ⟨t, ht, rfl⟩ := List.mem_map.mp hd
    exact (hok t ht).tm
  · have := szDs_enc ts
    have := sizes_le hok
    omega
  · rw [subsD_enc] at h3
    exact h3
section
variable {P : Program} {w : World} {K : PySem.W.Frag} {mg : Str → Option Value} {base : Heap}
end
end WW

set_option maxHeartbeats 4000000
namespace WW
open PySem PySem.Spec PyProof.Rows L2
local macro_rules | `(tactic| walk_at "x") => `(tactic| simp only [tSeq, tNext, tAsg, gName, tRet, tRetN, tIfS, tOp, tUn, rI, rI0, rU, tTest, tB, tAnd, tOr, tNot, tAndV, tOrV, tNotV, tIf, tCons, tNil, tTup, tLst, tCall, tCallS, tMeth, tMake, tFld, sFld, tBM, tBM0, tCB, tSl, tPart, tNoPart, tDrop, tPar, tPar3, tAug, ipI, gTup, gCons, gNil, gSub, rSetL, rAppend, rPop, rIxL, rIxS, rIxT, rEq, rNe, tChain, tNever, tThen, tVar, tC, L2.start, List.map_cons, List.map_nil, List.length_cons, List.length_nil, List.replicate_succ, List.replicate_zero, List.append_nil, List.nil_append, List.cons_append, Nat.reduceAdd, Nat.reduceSub, Nat.add_zero, Nat.zero_add, Nat.sub_zero, Nat.sub_self,
  List.getElem?_cons_zero, List.getElem?_cons_succ, Option.some.injEq, exists_eq_left', exists_eq_left, exists_eq', exists_eq, exists_and_left, List.set_cons_zero, List.set_cons_succ, V.int.injEq, V.bl.injEq, V.str.injEq, V.ref.injEq, V.ty.injEq, List.cons.injEq, and_true, true_and, and_assoc, if_true, if_false, Bool.false_eq_true, reduceCtorEq, false_and, and_false, exists_false, false_or, or_false, Bool.not_true, Bool.not_false, decide_eq_true_eq, ite_true, ite_false, WE, cxOf_K, cxOf_mg, rSlS, scal, wipe, mem_low, mem_dig, mem_brk, mem_brk4, sgn_inj, Bool.decide_eq_true])

def spTakesBar (K : PySem.W.Frag) : Sp := fun vs H Q _ => ∃ a xs known wv wanted p vvs bs, vs = [.ref a, wv, .ref p] ∧ SqT K H a xs ∧ Trs K H xs known ∧ Tr K H wv wanted ∧ SqT K H p vvs ∧ Trs K H vvs bs ∧ (∀ t ∈ known, t.ok ∧ t.size ≤ 80) ∧ wanted.ok ∧ wanted.size ≤ 80 ∧ known.length ≤ 8 ∧
  bs.Nodup ∧ ordE bs = bs ∧ wanted ∉ bs ∧ (∀ t ∈ bs, t ∈ evE known wanted) ∧
  ∀ (b : Bool) H', (b = true ↔ ((∀ t ∈ known, t ∈ bs) ∧ ∀ t, ¬ nxt (evE known wanted) (fun t => t ∈ bs) t)) → Same H H' → Q (.bl b) H'
abbrev Tk : Type := How × Te × List Te
def tkD (l : Tk) : PyData := .tuple [.str (Str.ofString l.1.str), l.2.1.enc, .tuple (l.2.2.map Te.enc)]
/-- a step that hangs on what is in S -/
def StepS (S : List Te) (t : Te) (h : How) (hs : List Te) : Prop := (∀ known, stp known t h hs) ∧ ∀ p ∈ hs, p ∈ S
def TakenOk (S : List Te) (t : Te) (ls : List Tk) : Prop := (∀ l ∈ ls, StepS S l.2.1 l.1 l.2.2 ∧ takes (fun t => t ∈ S) t l.2.1) ∧ ∀ m, takes (fun t => t ∈ S) t m → ∃ l ∈ ls, l.2.1 = m
def spTaken (K : PySem.W.Frag) : Sp := fun vs H Q _ => ∃ x t k D rows, vs = [x, .ref k] ∧ Tr K H x t ∧ t.ok ∧ KAt K H k D rows ∧ t ∈ rts rows ∧
  ∀ p us ls H', Same H H' → H p = none → H' p = some (.lst us) → DpAll K H' us (ls.map tkD) → TakenOk (rts rows) t ls → ls.length ≤ 2 → Q (.ref p) H'
def spMade (K : PySem.W.Frag) : Sp := fun vs H Q _ => ∃ x t k D rows, vs = [x, .ref k] ∧ Tr K H x t ∧ t.ok ∧ KAt K H k D rows ∧
  (∀ H', Same H H' → ¬ makes (fun t => t ∈ rts rows) t → Q .non H') ∧
  ∀ a h hs H', Same H H' → Dp K H' (.ref a) (howD h hs) → makes (fun t => t ∈ rts rows) t → StepS (rts rows) t h hs → Q (.ref a) H'
section
variable {P : Program} {w : World} {K : PySem.W.Frag} {mg : Str → Option Value} {base : Heap}
theorem o_taken_of (W : Wd fa fn K mg) : OkF P w K mg base d_taken_of 61 ["term", "found"] (spTaken K) := by
  have o_key_for := (o_key_for (P := P) (w := w) (base := base) W).mono (show 1 ≤ 60 by decide)
  have o_Kept_has := (o_Kept_has (P := P) (w := w) (base := base) W).mono (show 60 ≤ 60 by decide)
  obtain ⟨fd_key_for, F_key_for, b_key_for, k_key_for⟩ := o_key_for.ex; obtain ⟨fd_Kept_has, F_Kept_has, b_Kept_has, k_Kept_has⟩ := o_Kept_has.ex
  refine okf W (d := d_taken_of) 15 sc_taken_of rfl rfl (fun _ _ _ _ _ _ us hl => match us, hl with | [_, _], _ => rfl) ?len (fun cdv A outer s H vs Q E hr nd hu tk po h => ?body)
  case len =>
    rintro vs H Q E ⟨_, _, _, _, _, rfl, _⟩
    rfl
  case body =>
    refine ⟨_, (pss_cons (ps_if (pt_cmpR op_eq (pe_ix ix_tup (pv 0) pe_int (fun _ _ => rfl)) pe_str (nomark _)) (pss_one (ps_ret (pe_lst (pa_cons (pe_tup (pa_cons pe_str (pa_cons (pe_ix ix_tup (pv 0) pe_int (fun _ _ => rfl)) (pa_cons (pe_tup (pa_cons (pv 0) pa_nil)) pa_nil)))) (pa_cons (pe_tup (pa_cons pe_str (pa_cons (pe_ix ix_tup (pv 0) pe_int (fun _ _ => rfl)) (pa_cons (pe_tup (pa_cons (pv 0) pa_nil)) pa_nil)))) pa_nil))))) pss_nil)
    (pss_cons (ps_if (pt_cmpR op_eq (pe_ix ix_tup (pv 0) pe_int (fun _ _ => rfl)) pe_str (nomark _)) (pss_one (ps_ret (pe_lst (pa_cons (pe_tup (pa_cons pe_str (pa_cons (pe_ix ix_tup (pv 0) pe_int (fun _ _ => rfl)) (pa_cons (pe_tup (pa_cons (pv 0) pa_nil)) pa_nil)))) pa_nil)))) pss_nil)
    (pss_cons (ps_set (i := 2) nd rfl (by first | exact Or.inl rfl | exact Or.inr rfl) (by exact (pe_callS F_key_for (hr.mono (by first | decide | omega)) rfl (W.glo 29) k_key_for b_key_for (fun σ => passAt tk σ) (by exact (pa_cons (pv 0) pa_nil)))))
    (pss_one (ps_ret (pe_ifExp (PW.pt (pw_and (pt_cmpR op_notN (pv 2) pe_non (nomark _)) (pw_and1 (pt_val (pe_meth (pv 1) (W.cls 27) (W.meth 28) F_Kept_has (hr.mono (by first | decide | omega)) b_Kept_has .nil (passes_call tk (fun _ _ _ _ h => h)) (pa_cons (pv 2) pa_nil)))))) (pe_lst (pa_cons (pe_tup (pa_cons pe_str (pa_cons (pe_ix ix_tup (pv 0) pe_int (fun _ _ => rfl)) (pa_cons (pe_tup (pa_cons (pv 0) (pa_cons (pv 2) pa_nil))) pa_nil)))) pa_nil)) (pe_lst pa_nil))))))), ?_⟩
    obtain ⟨x, t, k, D, rows, rfl, hx, tok, g, hts, hq⟩ := h
    clear tk po
    walk_at "x"
    obtain ⟨p, us, rfl, h1, h2⟩ := hx.view
    refine ⟨p, rfl, _, h1, _, atI_nat (j := 0) rfl, rfl, ?_⟩
    by_cases c1 : t.word = "pair"
    · rw [if_pos (wY c1)]
      obtain ⟨a, b, rfl⟩ : ∃ a b, t = .pair a b := by cases t <;> simp [Te.word] at c1; exact ⟨_, _, rfl⟩
      obtain ⟨u, v, rfl, hu, hv⟩ := Trs2 (h2 (by simp [Te.parts]))
      refine ⟨p, rfl, _, h1, _, atI_nat (j := 1) rfl, by decide, fun p1 hp1 => ⟨by decide, fun p2 hp2 => ?_⟩⟩
      have s1 := Same.new (o := HO.tup [V.ref p]) hp1
      have a1 := new_tup (K := K) hp1 (.cons hx .nil)
      have s2 := Same.new (o := HO.tup [V.str (Str.ofString "first"), u, V.ref p1]) hp2
      have a2 := new_tup (K := K) hp2 (.cons (.str (Str.ofString "first")) (.cons (Tr.sm s1 hu) (.cons a1 .nil)))
      have s12 := Same.trans s1 s2
      refine ⟨p, rfl, _, (Tx.of s12).sqt h1, _, atI_nat (j := 2) rfl, by decide, fun p3 hp3 => ⟨by decide, fun p4 hp4 => ⟨by decide, fun p5 hp5 => ?_⟩⟩⟩
      have s3 := Same.new (o := HO.tup [V.ref p]) hp3
      have a3 := new_tup (K := K) hp3 (.cons (Tr.sm s12 hx) .nil)
      have s4 := Same.new (o := HO.tup [V.str (Str.ofString "second"), v, V.ref p3]) hp4
      have a4 := new_tup (K := K) hp4 (.cons (.str (Str.ofString "second")) (.cons (Tr.sm (Same.trans s12 s3) hv) (.cons a3 .nil)))
      have s5 := Same.new (o := HO.lst [V.ref p2, V.ref p4]) hp5
      have s34 := Same.trans s3 s4
      have s14 := Same.trans s12 s34
      have d1 := Dp.sm (Same.trans s34 s5) _ _ a2
      have d2 := Dp.sm s5 _ _ a4
      exact hq p5 _ [(.first, a, [.pair a b]), (.second, b, [.pair a b])] _ (Same.trans s14 s5) (Same.none s14 hp5) upd_same (.cons d1 (.cons d2 .nil))
        ⟨by
          intro l hl
          simp only [List.mem_cons, List.not_mem_nil, or_false] at hl
          rcases hl with rfl | rfl
          · exact ⟨⟨fun _ => ⟨b, rfl⟩, by simpa using hts⟩, .inl rfl⟩
          · exact ⟨⟨fun _ => ⟨a, rfl⟩, by simpa using hts⟩, .inr rfl⟩, by
          intro m hm
          rcases hm with rfl | rfl
          · exact ⟨_, List.mem_cons_self .., rfl⟩
          · exact ⟨_, List.mem_cons_of_mem _ (List.mem_cons_self ..), rfl⟩⟩ (Nat.le_refl _)
    · rw [if_neg (wN c1)]
      refine ⟨p, rfl, _, h1, _, atI_nat (j := 0) rfl, rfl, ?_⟩
      by_cases c2 : t.word = "seal"
      · rw [if_pos (wY c2)]
        obtain ⟨a, b, rfl⟩ : ∃ a b, t = .sea a b := by cases t <;> simp [Te.word] at c2; exact ⟨_, _, rfl⟩
        obtain ⟨u, v, rfl, hu, hv⟩ := Trs2 (h2 (by simp [Te.parts]))
        refine ⟨p, rfl, _, h1, _, atI_nat (j := 1) rfl, by decide, fun p1 hp1 => ⟨by decide, fun p2 hp2 => ⟨by decide, fun p3 hp3 => ?_⟩⟩⟩
        have s1 := Same.new (o := HO.tup [V.ref p]) hp1
        have a1 := new_tup (K := K) hp1 (.cons hx .nil)
        have s2 := Same.new (o := HO.tup [V.str (Str.ofString "read"), u, V.ref p1]) hp2
        have a2 := new_tup (K := K) hp2 (.cons (.str (Str.ofString "read")) (.cons (Tr.sm s1 hu) (.cons a1 .nil)))
        have s12 := Same.trans s1 s2
        have s3 := Same.new (o := HO.lst [V.ref p2]) hp3
        have d1 := Dp.sm s3 _ _ a2
        exact hq p3 _ [(.read, a, [.sea a b])] _ (Same.trans s12 s3) (Same.none s12 hp3) upd_same (.cons d1 .nil)
          ⟨by
            intro l hl
            rw [List.mem_singleton.mp hl]
            exact ⟨⟨fun _ => ⟨b, rfl⟩, by simpa using hts⟩, rfl⟩, by
            intro m hm
            exact ⟨_, List.mem_cons_self .., hm.symm⟩⟩ (by simp)
      · rw [if_neg (wN c2)]
        refine ⟨_, t.enc, rfl, hx, by rw [partsD_enc]; rfl, lay_enc t, ?_⟩
        rw [keyD_enc]
        cases hk : t.key with
        | none =>
          simp only [Option.map_none]
          rw [decide_eq_true trivial]
          refine iteF ⟨by decide, fun p1 hp1 => ?_⟩
          refine hq p1 _ [] _ (Same.new hp1) hp1 upd_same .nil ⟨(fun l h => nomatch h), fun m hm => ?_⟩ (by simp)
          cases t <;> first | (simp [Te.key] at hk; done) | exact absurd rfl c1 | exact absurd rfl c2 | simp [takes] at hm
        | some kk =>
          simp only [Option.map_some]
          intro z hz
          have kok := key_ok hk tok
          obtain ⟨pz, _, rfl, _⟩ := Tr.view (t := kk) hz
          rw [decide_eq_false (show ¬ V.ref pz = V.non from fun e => by cases e)]
          have g' := g
          obtain ⟨⟨dx, vs, k1, k2, k3⟩, nd, ok, ln⟩ := g'
          refine iteT ⟨_, _, k1, rfl, k, D, rows, V.ref pz, kk, rfl, g, hz, kok, fun H1 s1 => ⟨_, rfl, ?_⟩⟩
          obtain ⟨a, q, hpq, htk, hstp⟩ : ∃ a q, t.parts = [a, q] ∧ (∀ m, takes (fun t => t ∈ rts rows) t m ↔ m = a ∧ kk ∈ rts rows) ∧ ∀ known, stp known a .op [t, kk] := by
            cases t <;> simp [Te.key] at hk <;> (subst hk; first | exact ⟨_, _, rfl, fun m => Iff.rfl, fun _ => ⟨_, .inl rfl⟩⟩ | exact ⟨_, _, rfl, fun m => Iff.rfl, fun _ => ⟨_, .inr rfl⟩⟩)
          obtain ⟨u, v, rfl, hu, hv⟩ := Trs2 (hpq ▸ h2 (by rw [hpq]; simp))
          by_cases hkt : kk ∈ rts rows
          · rw [decide_eq_true hkt]
            refine iteT ⟨p, rfl, _, (Tx.of s1).sqt h1, _, atI_nat (j := 1) rfl, by decide, fun p1 hp1 => ⟨by decide, fun p2 hp2 => ⟨by decide, fun p3 hp3 => ?_⟩⟩⟩
            have s2 := Same.new (o := HO.tup [V.ref p, V.ref pz]) hp1
            have a1 := new_tup (K := K) hp1 (.cons (Tr.sm s1 hx) (.cons (Tr.sm s1 hz) .nil))
            have s3 := Same.new (o := HO.tup [V.str (Str.ofString "open"), u, V.ref p1]) hp2
            have a2 := new_tup (K := K) hp2 (.cons (.str (Str.ofString "open")) (.cons (Tr.sm (Same.trans s1 s2) hu) (.cons a1 .nil)))
            have s13 := Same.trans s1 (Same.trans s2 s3)
            have s4 := Same.new (o := HO.lst [V.ref p2]) hp3
            have d1 := Dp.sm s4 _ _ a2
            exact hq p3 _ [(.op, a, [t, kk])] _ (Same.trans s13 s4) (Same.none s13 hp3) upd_same (.cons d1 .nil)
              ⟨by
                intro l hl
                rw [List.mem_singleton.mp hl]
                refine ⟨⟨hstp, ?_⟩, (htk a).mpr ⟨rfl, hkt⟩⟩
                intro r hr
                simp only [List.mem_cons, List.not_mem_nil, or_false] at hr
                rcases hr with rfl | rfl
                · exact hts
                · exact hkt, by
                intro m hm
                exact ⟨_, List.mem_cons_self .., ((htk m).mp hm).1.symm⟩⟩ (by simp)
          · rw [decide_eq_false hkt]
            refine iteF ⟨by decide, fun p1 hp1 => ?_⟩
            exact hq p1 _ [] _ (Same.trans s1 (Same.new hp1)) (Same.none s1 hp1) upd_same .nil ⟨(fun l h => nomatch h), fun m hm => absurd ((htk m).mp hm).2 hkt⟩ (by simp)
theorem o_made_of (W : Wd fa fn K mg) : OkF P w K mg base d_made_of 61 ["term", "found"] (spMade K) := by
  have o_parts_of := (o_parts_of (P := P) (w := w) (base := base) W).mono (show 3 ≤ 60 by decide)
  have o_Kept_has := (o_Kept_has (P := P) (w := w) (base := base) W).mono (show 60 ≤ 60 by decide)
  obtain ⟨fd_parts_of, F_parts_of, b_parts_of, k_parts_of⟩ := o_parts_of.ex; obtain ⟨fd_Kept_has, F_Kept_has, b_Kept_has, k_Kept_has⟩ := o_Kept_has.ex
  refine okf W (d := d_made_of) 16 sc_made_of rfl rfl (fun _ _ _ _ _ _ us hl => match us, hl with | [_, _], _ => rfl) ?len (fun cdv A outer s H vs Q E hr nd hu tk po h => ?body)
  case len =>
    rintro vs H Q E ⟨_, _, _, _, _, rfl, _⟩
    rfl
  case body =>
    refine ⟨_, (pss_cons (ps_if (pt_cmpR op_eq (pe_ix ix_tup (pv 0) pe_int (fun _ _ => rfl)) pe_str (nomark _)) (pss_one (ps_ret (pe_tup (pa_cons pe_str (pa_cons (pe_tup pa_nil) pa_nil))))) pss_nil)
    (pss_cons (ps_if (PW.pt (pw_and (pt_cmpR op_in_seq (pe_ix ix_tup (pv 0) pe_int (fun _ _ => rfl)) (C8.pe_gc rfl (W.refV 30)) (by rfl)) (pw_and1 (pt_val (pe_callB (cr_all rfl) (by rfl) (W.free 3) (by decide +kernel) (pa_cons (pe_lc (own := [("part", 2)]) (g := (gName 2)) (tt := tYes) rfl nd (pi_list (by exact (pe_callS F_parts_of (hr.mono (by first | decide | omega)) rfl (W.glo 18) k_parts_of b_parts_of (fun σ => passAt tk σ) (by exact (pa_cons (pv 0) pa_nil))))) (blkOk_by (own := [("part", 2)]) (N := ["term", "found", "part"]) (sc := defScope s_made_of) (by decide +kernel)) (fun _ _ _ _ _ => (pg_name (i := 2) nd rfl (by first | exact Or.inl rfl | exact Or.inr rfl))) (fun _ _ _ _ _ => pts_nil) (fun _ _ _ _ _ => (pe_meth (pv 1) (W.cls 27) (W.meth 28) F_Kept_has (hr.mono (by first | decide | omega)) b_Kept_has .nil passL (pa_cons (pv 2) pa_nil)))) pa_nil)))))) (pss_one (ps_ret (pe_tup (pa_cons pe_str (pa_cons (pe_callTy call_tuple_of (by rfl) (W.free 14) (by decide +kernel) (pa_cons (by exact (pe_callS F_parts_of (hr.mono (by first | decide | omega)) rfl (W.glo 18) k_parts_of b_parts_of (fun σ => passAt tk σ) (by exact (pa_cons (pv 0) pa_nil)))) pa_nil)) pa_nil))))) pss_nil)
    (pss_one (ps_ret pe_non)))), ?_⟩
    obtain ⟨x, t, k, D, rows, rfl, hx, tok, g, hq1, hq2⟩ := h
    clear tk po
    walk_at "x"
    obtain ⟨p, us, rfl, h1, h2⟩ := hx.view
    refine ⟨p, rfl, _, h1, _, atI_nat (j := 0) rfl, rfl, ?_⟩
    by_cases c1 : t.word = "own"
    · rw [if_pos (wY c1)]
      have et : t = .own := by cases t <;> simp [Te.word] at c1; rfl
      refine ⟨by decide, fun p1 hp1 => ⟨by decide, fun p2 hp2 => ?_⟩⟩
      have a1 := new_tup (K := K) hp1 DpAll.nil
      have a2 := new_tup (K := K) hp2 (.cons (.str (Str.ofString "own")) (.cons a1 .nil))
      exact hq2 p2 .own [] _ (Same.trans (Same.new hp1) (Same.new hp2)) a2 (.inl et) ⟨fun _ => ⟨rfl, et⟩, (fun q h => nomatch h)⟩
    · rw [if_neg (wN c1)]
      have hno : t ≠ .own := fun e => c1 (by rw [e]; rfl)
      by_cases c2 : t.parts = []
      · refine ⟨p, rfl, _, h1, _, atI_nat (j := 0) rfl, rIn_lit (ss := made6.map Str.ofString) (.inr (W.made H)) (by rw [List.map_map]; rfl) false (made_no c2) ⟨_, rfl, iteF (hq1 H (Same.refl H) fun e => ?_)⟩⟩
        rcases e with e | e
        · exact absurd e hno
        · exact absurd c2 e.1
      · refine ⟨p, rfl, _, h1, _, atI_nat (j := 0) rfl, rIn_lit (ss := made6.map Str.ofString) (.inr (W.made H)) (by rw [List.map_map]; rfl) true (made_yes c2) ⟨_, rfl, iteT ?_⟩⟩
        have hpl : t.parts.length ≤ 2 := by cases t <;> simp [Te.parts]
        refine tLc_made (C := NewTs K H t.parts) (fun R hR => ?_) ?_
        · refine ⟨_, rfl, _, t.enc, rfl, hx, okS_enc t, lay_enc t, ?_⟩
          rw [partsD_enc]
          intro D3 xs3 H3 s3 hD3 hxs3 hdx3
          exact ⟨D3, rfl, ⟨_, SqL.of hxs3⟩, hR _ _ _ ⟨D3, rfl, s3, hxs3, hdx3⟩⟩
        rintro J H3 xs3 ⟨D3, rfl, s3, hxs3, hdx3⟩
        have hxl := Trs.len hdx3
        refine tAllT (walk_list (K := K) (a := D3) (xs := xs3)) (by omega) hdx3 (fun R hR => hR) (fun H' s => SqL.of (s _ _ hxs3)) (fun _ => rfl) (fun q => decide (q ∈ rts rows)) ?_ ?_
        · intro q y H4 R hqp hyq s4 hR
          have g4 := g.same (Same.trans s3 s4)
          have g4' := g4
          obtain ⟨⟨dx, vs, k1, k2, k3⟩, nd, ok, ln⟩ := g4'
          exact ⟨_, rfl, k, dx, _, rfl, k1, rfl, _, rfl, k, D, rows, y, q, rfl, g4, hyq, tok.part hqp, fun H5 s5 => hR H5 s5⟩
        · intro H4 s4'
          have s4 := Same.trans s3 s4'
          refine ⟨_, rfl, ?_⟩
          by_cases hm : ∀ q ∈ t.parts, q ∈ rts rows
          · rw [List.all_eq_true.mpr (fun q hq => decide_eq_true (hm q hq))]
            refine iteT ⟨_, t.enc, rfl, Tr.sm s4 hx, okS_enc t, lay_enc t, ?_⟩
            rw [partsD_enc]
            intro D5 xs5 H5 s5' hD5 hxs5 hdx5
            have s5 := Same.trans s4 s5'
            refine ⟨D5, rfl, xs5, .inl ⟨SqL.of hxs5, fun l hl => ⟨by decide, fun p1 hp1 => ?_⟩⟩⟩
            have a1 := new_tup (K := K) hl hdx5
            have a2 := new_tup (K := K) hp1 (.cons (.str (Str.ofString "make")) (.cons a1 .nil))
            exact hq2 p1 .make t.parts _ (Same.trans s5 (Same.trans (Same.new hl) (Same.new hp1))) a2 (.inr ⟨c2, hm⟩) ⟨fun _ => ⟨rfl, c2⟩, hm⟩
          · have e : (t.parts.all fun q => decide (q ∈ rts rows)) = false := by
              rw [Bool.eq_false_iff]
              intro h
              exact hm fun q hq => of_decide_eq_true (List.all_eq_true.mp h q hq)
            rw [e]
            refine iteF (hq1 H4 s4 fun h => ?_)
            rcases h with h | h
            · exact hno h
            · exact hm h.2
end
end WW

set_option maxHeartbeats 4000000
namespace WW
open PySem PySem.Spec PyProof.Rows L2
local macro_rules | `(tactic| walk_at "x") => `(tactic| simp only [tSeq, tNext, tAsg, gName, tRet, tRetN, tIfS, tOp, tUn, rI, rI0, rU, tTest, tB, tAnd, tOr, tNot, tAndV, tOrV, tNotV, tIf, tCons, tNil, tTup, tLst, tCall, tCallS, tMeth, tMake, tFld, sFld, tBM, tBM0, tCB, tSl, tPart, tNoPart, tDrop, tPar, tPar3, tAug, ipI, gTup, gCons, gNil, gSub, rSetL, rAppend, rPop, rIxL, rIxS, rIxT, rEq, rNe, tChain, tNever, tThen, tVar, tC, L2.start, List.map_cons, List.map_nil, List.length_cons, List.length_nil, List.replicate_succ, List.replicate_zero, List.append_nil, List.nil_append, List.cons_append, Nat.reduceAdd, Nat.reduceSub, Nat.add_zero, Nat.zero_add, Nat.sub_zero, Nat.sub_self,
  List.getElem?_cons_zero, List.getElem?_cons_succ, Option.some.injEq, exists_eq_left', exists_eq_left, exists_eq', exists_eq, exists_and_left, List.set_cons_zero, List.set_cons_succ, V.int.injEq, V.bl.injEq, V.str.injEq, V.ref.injEq, V.ty.injEq, List.cons.injEq, and_true, true_and, and_assoc, if_true, if_false, Bool.false_eq_true, reduceCtorEq, false_and, and_false, exists_false, false_or, or_false, Bool.not_true, Bool.not_false, decide_eq_true_eq, ite_true, ite_false, WE, cxOf_K, cxOf_mg, rSlS, scal, wipe, mem_low, mem_dig, mem_brk, mem_brk4, sgn_inj, Bool.decide_eq_true])

section
variable {K : PySem.W.Frag} {B H H' : Hp} {k k' D D' : Addr} {rows rows' : List Row}
theorem KAt.dict (g : KAt K H k D rows) : ∃ kvs, H D = some (.dK kvs) := g.has
theorem Off.kat (o : Off D' H H') (g' : KAt K H k' D' rows') (g : KAt K H k D rows) (ne : D ≠ D') : KAt K H' k D rows := by
  obtain ⟨kvs, hd⟩ := g'.has
  have tX := o.tx hd
  obtain ⟨⟨dx, vs, h1, h2, h3⟩, nd, ok, ln⟩ := g
  exact ⟨⟨dx, vs, o _ _ (fun e => by rw [e, hd] at h1; cases h1) h1, o _ _ ne h2, Dp.txs tX _ _ (imm_rows _) h3⟩, nd, ok, ln⟩
theorem Off.lst {p : Addr} {xs : List V} (o : Off D' H H') (g' : KAt K H k' D' rows') (h : H p = some (.lst xs)) : H' p = some (.lst xs) := by
  obtain ⟨kvs, hd⟩ := g'.has
  exact o _ _ (fun e => by rw [e, hd] at h; cases h) h
theorem Off.txk (o : Off D' H H') (g' : KAt K H k' D' rows') : Tx H H' := by
  obtain ⟨kvs, hd⟩ := g'.has
  exact o.tx hd
end
theorem tFor_made {C : It → Hp → List V → Prop} {g : TG} {tb : TS} {D : Ends} {wi : TI} {σ : L2.St} {H : Hp} (hwi : ∀ R : It → Hp → Prop, (∀ J H1 xs, C J H1 xs → R J H1) → wi σ H R)
    (hb : ∀ J H1 xs, C J H1 xs → tFor (fun _ _ R => R J H1) g tb D σ H1) : tFor wi g tb D σ H := hwi _ fun J H1 xs c => hb J H1 xs c
theorem KAt.ins {K : PySem.W.Frag} {H : Hp} {k D : Addr} {rows : List Row} (g : KAt K H k D rows) : ∃ dx, H k = some (.ins (He.ga K "Kept") dx [("rows", .ref D)]) := by
  obtain ⟨⟨dx, vs, h1, _⟩, _⟩ := g
  exact ⟨dx, h1⟩
def spNext (K : PySem.W.Frag) : Sp := fun vs H Q _ => ∃ e evs ev k D rows, vs = [.ref e, .ref k] ∧ H e = some (.lst evs) ∧ Trs K H evs ev ∧ (∀ t ∈ ev, t.ok) ∧ ev.length ≤ 900 ∧ (∀ t ∈ ev, ∀ p ∈ t.parts, p ∈ ev) ∧ KAt K H k D rows ∧ (∀ t ∈ rts rows, t ∈ ev) ∧
  ∀ k' D' rows' H', Same H H' → H k' = none → H D' = none → KAt K H' k' D' rows' → (∀ t, t ∈ rts rows' ↔ nxt ev (fun t => t ∈ rts rows) t) → (∀ r ∈ rows', StepS (rts rows) r.1 r.2.1 r.2.2) → Q (.ref k') H'
def spTakenIn (K : PySem.W.Frag) : Sp := fun vs H Q _ => ∃ k D rows k' D' rows', vs = [.ref k, .ref k'] ∧ KAt K H k D rows ∧ KAt K H k' D' rows' ∧ D ≠ D' ∧ (∀ t ∈ rts rows', t ∉ rts rows) ∧ rows.length + rows'.length ≤ 1000 ∧
  ∀ H', Off D H H' → KAt K H' k D (rows ++ rows') → Q .non H'
/-- what has come in so far -/
theorem nxt_in {ev S : List Te} (hin : ∀ t ∈ S, t ∈ ev) (hcl : ∀ t ∈ ev, ∀ p ∈ t.parts, p ∈ ev) {t : Te} (h : nxt ev (fun t => t ∈ S) t) : t ∈ ev := by
  rcases h.2 with ⟨u, hu, ht⟩ | h
  · exact hcl u (hin u hu) t (takes_part ht)
  · exact h.1
structure NS (K : PySem.W.Frag) (B : Hp) (ev : List Te) (S : List Te) (k' D' : Addr) (P : Te → Prop) (H1 : Hp) : Prop where
  ex : ∃ rows', KAt K H1 k' D' rows' ∧ (∀ t ∈ rts rows', nxt ev (fun t => t ∈ S) t) ∧ (∀ r ∈ rows', StepS S r.1 r.2.1 r.2.2) ∧ (∀ m, P m → m ∈ S ∨ m ∈ rts rows')
  off : Off D' B H1
section
variable {P : Program} {w : World} {K : PySem.W.Frag} {mg : Str → Option Value} {base : Heap}
theorem o_next_round (W : Wd fa fn K mg) : OkF P w K mg base d_next_round 62 ["every", "found"] (spNext K) := by
  have o_taken_of := (o_taken_of (P := P) (w := w) (base := base) W).mono (show 61 ≤ 61 by decide)
  have o_made_of := (o_made_of (P := P) (w := w) (base := base) W).mono (show 61 ≤ 61 by decide)
  have o_Kept_has := (o_Kept_has (P := P) (w := w) (base := base) W).mono (show 60 ≤ 61 by decide)
  have o_Kept_put := (o_Kept_put (P := P) (w := w) (base := base) W).mono (show 60 ≤ 61 by decide)
  have o_Kept_terms := (o_Kept_terms (P := P) (w := w) (base := base) W).mono (show 60 ≤ 61 by decide)
  have o_Kept___init__ := (o_Kept___init__ (P := P) (w := w) (base := base) W).mono (show 60 ≤ 60 by decide)
  obtain ⟨fd_Kept___init__, F_Kept___init__, b_Kept___init__, k_Kept___init__⟩ := o_Kept___init__.ex; obtain ⟨fd_Kept_terms, F_Kept_terms, b_Kept_terms, k_Kept_terms⟩ := o_Kept_terms.ex; obtain ⟨fd_taken_of, F_taken_of, b_taken_of, k_taken_of⟩ := o_taken_of.ex; obtain ⟨fd_Kept_has, F_Kept_has, b_Kept_has, k_Kept_has⟩ := o_Kept_has.ex; obtain ⟨fd_Kept_put, F_Kept_put, b_Kept_put, k_Kept_put⟩ := o_Kept_put.ex; obtain ⟨fd_made_of, F_made_of, b_made_of, k_made_of⟩ := o_made_of.ex
  refine okf W (d := d_next_round) 17 sc_next_round rfl rfl (fun _ _ _ _ _ _ us hl => match us, hl with | [_, _], _ => rfl) ?len (fun cdv A outer s H vs Q E hr nd hu tk po h => ?body)
  case len =>
    rintro vs H Q E ⟨_, _, _, _, _, _, rfl, _⟩
    rfl
  case body =>
    refine ⟨_, (pss_cons (ps_set (i := 2) nd rfl (by first | exact Or.inl rfl | exact Or.inr rfl) (pe_make (W.mkr 32) F_Kept___init__ (hr.mono (by first | decide | omega)) rfl (W.glo 31) b_Kept___init__ .nil passL (pa_cons (pe_lst pa_nil) pa_nil)))
    (pss_cons (ps_for po rfl (pi_list (pe_meth0 (pv 1) (W.cls 27) (W.meth 33) F_Kept_terms (hr.mono (by first | decide | omega)) b_Kept_terms .nil (passes_call tk (fun _ _ _ _ h => h)))) (pg_name (i := 3) nd rfl (by first | exact Or.inl rfl | exact Or.inr rfl))
      (pss_one (ps_for po rfl (pi_list (by exact (pe_callS F_taken_of (hr.mono (by first | decide | omega)) rfl (W.glo 34) k_taken_of b_taken_of (fun σ => passAt tk σ) (by exact (pa_cons (pv 3) (pa_cons (pv 1) pa_nil)))))) (pg_tup rfl (pgs_cons (pg_name (i := 4) nd rfl (by first | exact Or.inl rfl | exact Or.inr rfl)) (pgs_cons (pg_name (i := 5) nd rfl (by first | exact Or.inl rfl | exact Or.inr rfl)) (pgs_cons (pg_name (i := 6) nd rfl (by first | exact Or.inl rfl | exact Or.inr rfl)) pgs_nil))))
      (pss_one (ps_if (PW.pt (pw_and (pt_not (pt_val (pe_meth (pv 1) (W.cls 27) (W.meth 28) F_Kept_has (hr.mono (by first | decide | omega)) b_Kept_has .nil (passes_call tk (fun _ _ _ _ h => h)) (pa_cons (pv 5) pa_nil)))) (pw_and1 (pt_not (pt_val (pe_meth (pv 2) (W.cls 27) (W.meth 28) F_Kept_has (hr.mono (by first | decide | omega)) b_Kept_has .nil (passes_call tk (fun _ _ _ _ h => h)) (pa_cons (pv 5) pa_nil))))))) (pss_one (ps_expr (pe_meth (pv 2) (W.cls 27) (W.meth 35) F_Kept_put (hr.mono (by first | decide | omega)) b_Kept_put .nil (passes_call tk (fun _ _ _ _ h => h)) (pa_cons (pv 5) (pa_cons (pe_tup (pa_cons (pv 4) (pa_cons (pv 6) pa_nil))) pa_nil))))) pss_nil)))))
    (pss_cons (ps_for po rfl (pi_list (pv 0)) (pg_name (i := 3) nd rfl (by first | exact Or.inl rfl | exact Or.inr rfl))
      (pss_one (ps_if (PW.pt (pw_and (pt_not (pt_val (pe_meth (pv 1) (W.cls 27) (W.meth 28) F_Kept_has (hr.mono (by first | decide | omega)) b_Kept_has .nil (passes_call tk (fun _ _ _ _ h => h)) (pa_cons (pv 3) pa_nil)))) (pw_and1 (pt_not (pt_val (pe_meth (pv 2) (W.cls 27) (W.meth 28) F_Kept_has (hr.mono (by first | decide | omega)) b_Kept_has .nil (passes_call tk (fun _ _ _ _ h => h)) (pa_cons (pv 3) pa_nil))))))) (pss_cons (ps_set (i := 7) nd rfl (by first | exact Or.inl rfl | exact Or.inr rfl) (by exact (pe_callS F_made_of (hr.mono (by first | decide | omega)) rfl (W.glo 36) k_made_of b_made_of (fun σ => passAt tk σ) (by exact (pa_cons (pv 3) (pa_cons (pv 1) pa_nil))))))
    (pss_one (ps_if (pt_cmpR op_notN (pv 7) pe_non (nomark _)) (pss_one (ps_expr (pe_meth (pv 2) (W.cls 27) (W.meth 35) F_Kept_put (hr.mono (by first | decide | omega)) b_Kept_put .nil (passes_call tk (fun _ _ _ _ h => h)) (pa_cons (pv 3) (pa_cons (pv 7) pa_nil))))) pss_nil))) pss_nil)))
    (pss_one (ps_ret (pv 2)))))), ?_⟩
    obtain ⟨e, evs, ev, k, D, rows, rfl, he, hev, oke, hel, hcl, g, hin, hq⟩ := h
    clear tk po
    have szl := sizeLine_eq
    walk_at "x"
    refine ⟨by decide, fun p hp x dx hx hdx hne => ?_⟩
    have s1 := Same.new (o := HO.lst []) hp
    have s2 := Same.trans s1 (Same.new (o := HO.own x) hdx)
    have hx2 : (upd (upd H p (HO.lst [])) dx (HO.own x)) x = none := by rw [upd_ne hne.symm]; exact hx
    have s3 := Same.trans s2 (Same.new (o := HO.ins (He.ga K d_Kept___init__.at_.fst) dx []) hx2)
    have hpl : (upd (upd (upd H p (HO.lst [])) dx (HO.own x)) x (HO.ins (He.ga K d_Kept___init__.at_.fst) dx [])) p = some (.lst []) := by
      rw [upd_ne (fun e => by rw [e, upd_same] at hx; cases hx), upd_ne (fun e => by rw [e, upd_same] at hdx; cases hdx), upd_same]
    have hxH : H x = none := Same.none s2 hx2
    refine ⟨x, dx, p, [], [], rfl, upd_same, .l hpl, .nil, (fun t h => nomatch h), by simp, fun D' B0 hD' oB gk => ⟨rfl, ?_⟩⟩
    have hDx : D' ≠ x := fun e => by rw [e, upd_same] at hD'; cases hD'
    have sB : Same H B0 := fun a o e => oB a o (ne_of_none e hxH) (s3 a o e)
    have hDH : H D' = none := Same.none s3 hD'
    have gk0 : KAt K B0 x D' [] := gk
    have gB := g.same sB
    have hrl := rts_len rows
    have gln := g.ln
    have hkD : D ≠ D' := fun e => by obtain ⟨kvs, h⟩ := g.has; rw [e, hDH] at h; cases h
    clear oB s1 s2 s3 hpl hx hdx hx2
    refine tFor_made (C := NewTs K B0 (rts rows)) (fun R hR => ?_) ?_
    · obtain ⟨dxk, hk⟩ := gB.ins
      exact ⟨_, rfl, k, dxk, _, rfl, hk, rfl, k, D, rows, rfl, gB, fun p us H1 s1 hp hp1 hus => ⟨p, rfl, ⟨_, SqL.of hp1⟩, hR _ _ _ ⟨p, rfl, s1, hp1, hus⟩⟩⟩
    rintro J B us ⟨pt, rfl, sB1, hpt, hus⟩
    have sHB := Same.trans sB sB1
    have gB := g.same sHB
    have gk1 := gk0.same sB1
    have heB := sHB _ _ he
    have hevB := Trs.sm sHB hev
    have hul := hus.len
    have nD : B D' ≠ none := by obtain ⟨kvs, h⟩ := gk1.has; rw [h]; exact fun e => nomatch e
    refine tFor_same (walk_list (K := K) (a := pt) (xs := us)) (fun R hR => hR) (fun i σ H2 => ∃ y3 y4 y5 y6 y7, σ = [some (V.ref e), some (V.ref k), some (V.ref x), y3, y4, y5, y6, y7] ∧ NS K B ev (rts rows) x D' (fun m => ∃ u ∈ (rts rows).take i, takes (fun t => t ∈ rts rows) u m) H2) ⟨_, _, _, _, _, rfl, ⟨[], gk1, (fun t h => nomatch h), (fun r h => nomatch h), fun m h => by simp at h⟩, Off.of (Same.refl _)⟩ (fun i σ H2 _ h => by obtain ⟨_, _, _, _, _, _, h⟩ := h; exact SqL.of (h.off.lst gk1 hpt)) ?_ ?_
    · rintro i xt σ H2 H3 hi ⟨y3, y4, y5, y6, y7, rfl, ⟨rows', gm, hnx, hst, hcm⟩, o2⟩ ⟨rfl, hxi⟩
      obtain ⟨t, ht, hv⟩ := hus.get hxi
      have tS : t ∈ rts rows := List.mem_of_getElem? ht
      have tok := g.ok t tS
      have hv2 := Tr.tx (o2.txk gk1) hv
      have gk2 := Off.kat o2 gk1 gB hkD
      simp only [gName, List.set_cons_zero, List.set_cons_succ]
      refine tFor_made (C := fun J H1 xs => ∃ q ls, J = Itl K q ∧ Same H3 H1 ∧ H1 q = some (.lst xs) ∧ DpAll K H1 xs (ls.map tkD) ∧ TakenOk (rts rows) t ls ∧ ls.length ≤ 2) (fun R hR => ?_) ?_
      · exact ⟨_, rfl, _, rfl, xt, t, k, D, rows, rfl, hv2, tok, gk2, tS, fun q us' ls H4 s4 hq hq1 hls hok hll => ⟨q, rfl, ⟨_, SqL.of hq1⟩, hR _ _ _ ⟨q, ls, rfl, s4, hq1, hls, hok, hll⟩⟩⟩
      rintro J B2 lus ⟨q, ls, rfl, s4, hq1, hls, hok, hll⟩
      have gm2 := gm.same s4
      have hlul := DpAll.length hls
      rw [List.length_map] at hlul
      have o24 := Off.trans o2 (Off.of s4)
      refine tFor_same (walk_list (K := K) (a := q) (xs := lus)) (fun R hR => hR) (fun jj σ H2 => ∃ y4 y5 y6 y7, σ = [some (V.ref e), some (V.ref k), some (V.ref x), some xt, y4, y5, y6, y7] ∧ Off D' B2 H2 ∧ NS K B ev (rts rows) x D' (fun m => (∃ u ∈ (rts rows).take i, takes (fun t => t ∈ rts rows) u m) ∨ ∃ l ∈ ls.take jj, l.2.1 = m) H2) ⟨_, _, _, _, rfl, Off.of (Same.refl _), ⟨rows', gm2, hnx, hst, fun m h => by rcases h with h | h; exact hcm m h; simp at h⟩, o24⟩ (fun jj σ H2 _ h => by obtain ⟨_, _, _, _, _, h, _⟩ := h; exact SqL.of (h.lst gm2 hq1)) ?_ ?_
      · rintro jj xl σ H5 H6 hj ⟨z4, z5, z6, z7, rfl, oB2, ⟨rows2, gm5, hnx5, hst5, hcm5⟩, o5⟩ ⟨rfl, hxl⟩
        obtain ⟨d, hd, hdv⟩ := DpAll.get hls hxl
        rw [List.getElem?_map] at hd
        obtain ⟨⟨hw, m, hs⟩, hl, rfl⟩ := Option.map_eq_some_iff.mp hd
        have hdv5 := Dp.tx (oB2.txk gm2) _ _ (by simp only [tkD, imm, imm.immAll, imm_enc, immAll_encs, Bool.and_self]) hdv
        have hmem := List.mem_of_getElem? hl
        obtain ⟨⟨hstp, hhs⟩, htm⟩ := hok.1 _ hmem
        simp only at hstp hhs htm
        have mok : m.ok := tok.part (takes_part htm)
        unfold tkD at hdv5
        cases hdv5 with
        | @tup pl ws ds k1 k2 =>
        cases k2 with
        | @cons w0 ws1 _ _ k3 k4 =>
        cases k3
        cases k4 with
        | @cons vm ws2 _ _ km k5 =>
        cases k5 with
        | @cons vh ws3 _ _ kh k6 =>
        cases k6
        have gk5 := Off.kat o5 gk1 gB hkD
        obtain ⟨dk, hk5⟩ := gk5.ins
        obtain ⟨dm, hm5⟩ := gm5.ins
        have r2l : rows2.length ≤ 900 := by
          have := nodup_len gm5.nd fun q hq => nxt_in hin hcl (hnx5 q hq)
          rw [rts_len] at this
          omega
        have step : ∀ {q : Te} {rw : List Row}, (∀ u, u ∈ rts rows2 → u ∈ rts rw) → (m ∈ rts rows ∨ m ∈ rts rw) → ((∃ u ∈ (rts rows).take i, takes (fun t => t ∈ rts rows) u q) ∨ ∃ l ∈ ls.take (jj + 1), l.2.1 = q) → q ∈ rts rows ∨ q ∈ rts rw := by
          intro q rw hsub hm hq
          rcases hq with hq | ⟨l, hl', rfl⟩
          · rcases hcm5 q (.inl hq) with h | h
            · exact .inl h
            · exact .inr (hsub _ h)
          · rw [List.take_add_one, hl] at hl'
            rcases List.mem_append.mp hl' with hl' | hl'
            · rcases hcm5 _ (.inr ⟨l, hl', rfl⟩) with h | h
              · exact .inl h
              · exact .inr (hsub _ h)
            · have e : l = (hw, m, hs) := by simpa using hl'
              subst e
              exact hm
        walk_at "x"
        refine ⟨_, k1, rfl, _, _, rfl, _, _, rfl, _, _, rfl, rfl, _, _, hk5, rfl, k, D, rows, vm, m, rfl, gk5, km, mok, fun H7 s7 => ⟨_, rfl, ?_⟩⟩
        by_cases hmS : m ∈ rts rows
        · rw [decide_eq_true hmS]
          exact iteF ⟨Off.trans oB2 (Off.of s7), ⟨rows2, gm5.same s7, hnx5, hst5, fun q hq => step (fun _ h => h) (.inl hmS) hq⟩, Off.trans o5 (Off.of s7)⟩
        · rw [decide_eq_false hmS]
          refine iteT ⟨_, _, s7 _ _ hm5, rfl, x, D', rows2, vm, m, rfl, gm5.same s7, Tr.sm s7 km, mok, fun H8 s8 => ⟨_, rfl, ?_⟩⟩
          have s78 := Same.trans s7 s8
          by_cases hm2 : m ∈ rts rows2
          · rw [decide_eq_true hm2]
            exact iteF ⟨Off.trans oB2 (Off.of s78), ⟨rows2, gm5.same s78, hnx5, hst5, fun q hq => step (fun _ h => h) (.inr hm2) hq⟩, Off.trans o5 (Off.of s78)⟩
          · rw [decide_eq_false hm2]
            refine iteT ⟨_, _, s78 _ _ hm5, rfl, by decide, fun pn hpn => ?_⟩
            have s9 := Same.trans s78 (Same.new (o := HO.tup [V.str (Str.ofString hw.str), vh]) hpn)
            have an := new_tup (K := K) hpn (.cons (.str (Str.ofString hw.str)) (.cons (Dp.sm s78 _ _ kh) .nil))
            refine ⟨x, D', rows2, vm, V.ref pn, m, hw, hs, rfl, gm5.same s9, Tr.sm s9 km, mok, an, hm2, by omega, fun H9 o9 g9 => ?_⟩
            refine ⟨Off.trans oB2 (Off.trans (Off.of s9) o9), ⟨rows2 ++ [(m, hw, hs)], g9, fun q hq => ?_, fun r hr => ?_, fun q hq => step (fun u h => by rw [rts_app]; exact List.mem_append_left _ h) (.inr (by rw [rts_app]; simp [rts])) hq⟩, Off.trans o5 (Off.trans (Off.of s9) o9)⟩
            · rw [rts_app] at hq
              rcases List.mem_append.mp hq with hq | hq
              · exact hnx5 q hq
              · have e : q = m := by simpa [rts] using hq
                subst e
                exact ⟨hmS, .inl ⟨t, tS, htm⟩⟩
            · rcases List.mem_append.mp hr with hr | hr
              · exact hst5 r hr
              · rw [List.mem_singleton.mp hr]
                exact ⟨hstp, hhs⟩
      · rintro σ H5 ⟨z4, z5, z6, z7, rfl, oB2, ⟨rows2, gm5, hnx5, hst5, hcm5⟩, o5⟩
        refine ⟨_, _, _, _, _, rfl, ⟨rows2, gm5, hnx5, hst5, fun m h => hcm5 m ?_⟩, o5⟩
        obtain ⟨u, hu, hum⟩ := h
        rw [List.take_add_one, ht] at hu
        rcases List.mem_append.mp hu with hu | hu
        · exact .inl ⟨u, hu, hum⟩
        · have : u = t := by simpa using hu
          subst this
          rw [hlul, List.take_length]
          exact .inr (hok.2 m hum)
    · rintro σ H2 ⟨y3, y4, y5, y6, y7, rfl, ⟨rows', gm, hnx, hst, hcm⟩, o2⟩
      rw [hul, List.take_length] at hcm
      have he2 := o2.lst gk1 heB
      have hev2 := hevB.tx (o2.txk gk1)
      have hevl := hev.len
      dsimp only
      refine seq_of ?_
      refine tFor_same (walk_list (K := K) (a := e) (xs := evs)) (fun R hR => ⟨_, rfl, e, rfl, ⟨_, SqL.of he2⟩, hR⟩) (fun i σ H3 => ∃ y3 y4 y5 y6 y7, σ = [some (V.ref e), some (V.ref k), some (V.ref x), y3, y4, y5, y6, y7] ∧ NS K B ev (rts rows) x D' (fun m => (∃ u ∈ rts rows, takes (fun t => t ∈ rts rows) u m) ∨ (m ∈ ev.take i ∧ makes (fun t => t ∈ rts rows) m)) H3) ⟨_, _, _, _, _, rfl, ⟨rows', gm, hnx, hst, fun m h => by rcases h with h | h; exact hcm m h; simp at h⟩, o2⟩ (fun i σ H3 _ h => by obtain ⟨_, _, _, _, _, _, h⟩ := h; exact SqL.of (h.off.lst gk1 heB)) ?_ ?_
      · rintro i xt σ H5 H6 hi ⟨z3, z4, z5, z6, z7, rfl, ⟨rows2, gm5, hnx5, hst5, hcm5⟩, o5⟩ ⟨rfl, hxi⟩
        obtain ⟨m, hm, hv⟩ := hev.get hxi
        have mE : m ∈ ev := List.mem_of_getElem? hm
        have mok := oke m mE
        have km := Tr.tx (o5.txk gk1) (Tr.sm sHB hv)
        have gk5 := Off.kat o5 gk1 gB hkD
        obtain ⟨dk, hk5⟩ := gk5.ins
        obtain ⟨dm, hm5⟩ := gm5.ins
        have r2l : rows2.length ≤ 900 := by
          have := nodup_len gm5.nd fun q hq => nxt_in hin hcl (hnx5 q hq)
          rw [rts_len] at this
          omega
        have step : ∀ {q : Te} {rw : List Row}, (∀ u, u ∈ rts rows2 → u ∈ rts rw) → (makes (fun t => t ∈ rts rows) m → m ∈ rts rows ∨ m ∈ rts rw) → ((∃ u ∈ rts rows, takes (fun t => t ∈ rts rows) u q) ∨ (q ∈ ev.take (i + 1) ∧ makes (fun t => t ∈ rts rows) q)) → q ∈ rts rows ∨ q ∈ rts rw := by
          intro q rw hsub hmm hq
          rcases hq with hq | ⟨hq, hmk⟩
          · rcases hcm5 q (.inl hq) with h | h
            · exact .inl h
            · exact .inr (hsub _ h)
          · rw [List.take_add_one, hm] at hq
            rcases List.mem_append.mp hq with hq | hq
            · rcases hcm5 _ (.inr ⟨hq, hmk⟩) with h | h
              · exact .inl h
              · exact .inr (hsub _ h)
            · have e : q = m := by simpa using hq
              subst e
              exact hmm hmk
        walk_at "x"
        refine ⟨_, _, hk5, rfl, k, D, rows, xt, m, rfl, gk5, km, mok, fun H7 s7 => ⟨_, rfl, ?_⟩⟩
        by_cases hmS : m ∈ rts rows
        · rw [decide_eq_true hmS]
          exact iteF ⟨⟨rows2, gm5.same s7, hnx5, hst5, fun q hq => step (fun _ h => h) (fun _ => .inl hmS) hq⟩, Off.trans o5 (Off.of s7)⟩
        · rw [decide_eq_false hmS]
          refine iteT ⟨_, _, s7 _ _ hm5, rfl, x, D', rows2, xt, m, rfl, gm5.same s7, Tr.sm s7 km, mok, fun H8 s8 => ⟨_, rfl, ?_⟩⟩
          have s78 := Same.trans s7 s8
          by_cases hm2 : m ∈ rts rows2
          · rw [decide_eq_true hm2]
            exact iteF ⟨⟨rows2, gm5.same s78, hnx5, hst5, fun q hq => step (fun _ h => h) (fun _ => .inr hm2) hq⟩, Off.trans o5 (Off.of s78)⟩
          · rw [decide_eq_false hm2]
            refine iteT ⟨xt, m, k, D, rows, rfl, Tr.sm s78 km, mok, gk5.same s78, fun H9 s9 hno => ?_, fun a hw hs H9 s9 ha hmk hstp => ?_⟩
            · dsimp only
              rw [decide_eq_true rfl]
              have s79 := Same.trans s78 s9
              exact iteF ⟨⟨rows2, gm5.same s79, hnx5, hst5, fun q hq => step (fun _ h => h) (fun h => absurd h hno) hq⟩, Off.trans o5 (Off.of s79)⟩
            · dsimp only
              rw [decide_eq_false (show ¬ V.ref a = V.non from fun e => by cases e)]
              have s79 := Same.trans s78 s9
              refine iteT ⟨_, _, s79 _ _ hm5, rfl, x, D', rows2, xt, V.ref a, m, hw, hs, rfl, gm5.same s79, Tr.sm s79 km, mok, ha, hm2, by omega, fun H10 o10 g10 => ?_⟩
              refine ⟨⟨rows2 ++ [(m, hw, hs)], g10, fun q hq => ?_, fun r hr => ?_, fun q hq => step (fun u h => by rw [rts_app]; exact List.mem_append_left _ h) (fun _ => .inr (by rw [rts_app]; simp [rts])) hq⟩, Off.trans o5 (Off.trans (Off.of s79) o10)⟩
              · rw [rts_app] at hq
                rcases List.mem_append.mp hq with hq | hq
                · exact hnx5 q hq
                · have e : q = m := by simpa [rts] using hq
                  subst e
                  exact ⟨hmS, .inr ⟨mE, hmk⟩⟩
              · rcases List.mem_append.mp hr with hr | hr
                · exact hst5 r hr
                · rw [List.mem_singleton.mp hr]
                  exact hstp
      · rintro σ H3 ⟨z3, z4, z5, z6, z7, rfl, ⟨rows2, gm5, hnx5, hst5, hcm5⟩, o5⟩
        walk_at "x"
        have sH3 : Same H H3 := Off.same sHB hDH o5
        refine hq x D' rows2 H3 sH3 hxH hDH gm5 (fun m => ⟨hnx5 m, fun h => ?_⟩) hst5
        rw [List.take_of_length_le (by omega)] at hcm5
        rcases hcm5 m (h.2.imp (fun h => h) fun h => h) with q | q
        · exact absurd q h.1
        · exact q
theorem o_taken_in (W : Wd fa fn K mg) : OkF P w K mg base d_taken_in 62 ["found", "more"] (spTakenIn K) := by
  have o_Kept_put := (o_Kept_put (P := P) (w := w) (base := base) W).mono (show 60 ≤ 61 by decide)
  have o_Kept_how := (o_Kept_how (P := P) (w := w) (base := base) W).mono (show 60 ≤ 61 by decide)
  have o_Kept_terms := (o_Kept_terms (P := P) (w := w) (base := base) W).mono (show 60 ≤ 61 by decide)
  obtain ⟨fd_Kept_terms, F_Kept_terms, b_Kept_terms, k_Kept_terms⟩ := o_Kept_terms.ex; obtain ⟨fd_Kept_put, F_Kept_put, b_Kept_put, k_Kept_put⟩ := o_Kept_put.ex; obtain ⟨fd_Kept_how, F_Kept_how, b_Kept_how, k_Kept_how⟩ := o_Kept_how.ex
  refine okf W (d := d_taken_in) 18 sc_taken_in rfl rfl (fun _ _ _ _ _ _ us hl => match us, hl with | [_, _], _ => rfl) ?len (fun cdv A outer s H vs Q E hr nd hu tk po h => ?body)
  case len =>
    rintro vs H Q E ⟨_, _, _, _, _, _, rfl, _⟩
    rfl
  case body =>
    refine ⟨_, (pss_one (ps_for po rfl (pi_list (pe_meth0 (pv 1) (W.cls 27) (W.meth 33) F_Kept_terms (hr.mono (by first | decide | omega)) b_Kept_terms .nil (passes_call tk (fun _ _ _ _ h => h)))) (pg_name (i := 2) nd rfl (by first | exact Or.inl rfl | exact Or.inr rfl))
      (pss_one (ps_expr (pe_meth (pv 0) (W.cls 27) (W.meth 35) F_Kept_put (hr.mono (by first | decide | omega)) b_Kept_put .nil (passes_call tk (fun _ _ _ _ h => h)) (pa_cons (pv 2) (pa_cons (pe_meth (pv 1) (W.cls 27) (W.meth 37) F_Kept_how (hr.mono (by first | decide | omega)) b_Kept_how .nil (passes_call tk (fun _ _ _ _ h => h)) (pa_cons (pv 2) pa_nil)) pa_nil))))))), ?_⟩
    obtain ⟨k, D, rows, k', D', rows', rfl, g, g', ne, hdis, hln, hq⟩ := h
    clear tk po
    walk_at "x"
    have hrl := rts_len rows'
    have g'l := g'.ln
    refine tFor_made (C := NewTs K H (rts rows')) (fun R hR => ?_) ?_
    · obtain ⟨dx', hk'⟩ := g'.ins
      refine ⟨_, rfl, k', dx', _, rfl, hk', rfl, k', D', rows', rfl, g', fun p us H1 s1 hp hp1 hus => ⟨p, rfl, ⟨_, SqL.of hp1⟩, hR _ _ _ ⟨p, rfl, s1, hp1, hus⟩⟩⟩
    rintro J B us ⟨p, rfl, s1, hp1, hus⟩
    have gB := g.same s1
    have gB' := g'.same s1
    have hul := hus.len
    refine tFor_same (walk_list (K := K) (a := p) (xs := us)) (fun R hR => hR) (fun i σ H2 => ∃ y, σ = [some (V.ref k), some (V.ref k'), y] ∧ Off D B H2 ∧ KAt K H2 k D (rows ++ rows'.take i)) ⟨_, rfl, Off.of (Same.refl _), by simpa using gB⟩ (fun i σ H2 _ h => by obtain ⟨_, _, o, _⟩ := h; exact SqL.of (o.lst gB hp1)) ?_ ?_
    · rintro i x σ H2 H3 hi ⟨y, rfl, o, g2⟩ ⟨rfl, hxi⟩
      obtain ⟨t, ht, hv⟩ := hus.get hxi
      have hi' : i < rows'.length := by omega
      have er : rows'[i]? = some rows'[i] := List.getElem?_eq_getElem hi'
      obtain ⟨h, hs, ehs⟩ : ∃ h hs, rows'[i] = (t, h, hs) := by
        unfold rts at ht
        rw [List.getElem?_map, er] at ht
        simp at ht
        exact ⟨rows'[i].2.1, rows'[i].2.2, by rw [← ht]⟩
      rw [ehs] at er
      have g2' := Off.kat o gB gB' ne.symm
      have hx2 := Tr.tx (o.txk gB) hv
      obtain ⟨dx, hk⟩ := g2.ins
      obtain ⟨dx', hk'⟩ := g2'.ins
      have tok := g'.ok t (List.mem_of_getElem? ht)
      walk_at "x"
      refine ⟨_, _, hk, rfl, _, _, hk', rfl, k', D', rows', x, t, h, hs, rfl, g2', hx2, List.mem_of_getElem? er, fun v H4 s4 hv4 => ?_⟩
      have hnot : t ∉ rts (rows ++ rows'.take i) := by
        rw [rts_app]
        intro hm
        rcases List.mem_append.mp hm with hm | hm
        · exact hdis t (List.mem_of_getElem? ht) hm
        · rw [rts_take] at hm
          obtain ⟨j, hj, e⟩ := List.getElem_of_mem hm
          rw [List.length_take] at hj
          rw [List.getElem_take] at e
          have h1 := nodup_ix g'.nd ht
          have h2 := nodup_ix g'.nd (i := j) (t := t) (by rw [List.getElem?_eq_getElem (by omega), e])
          omega
      refine ⟨k, D, rows ++ rows'.take i, x, v, t, h, hs, rfl, g2.same s4, Tr.sm s4 hx2, tok, hv4, hnot, by rw [List.length_append, List.length_take]; omega, fun H5 o5 g5 => ⟨Off.trans (Off.trans o (Off.of s4)) o5, ?_⟩⟩
      rw [List.take_add_one, er, ← List.append_assoc]
      exact g5
    · rintro σ H2 ⟨y, rfl, o, g2⟩
      rw [List.take_of_length_le (by omega)] at g2
      exact hq H2 (Off.trans (Off.of s1) o) g2
end
end WW

set_option maxHeartbeats 4000000
namespace WW
open PySem PySem.Spec PyProof.Rows L2
local macro_rules | `(tactic| walk_at "x") => `(tactic| simp only [tSeq, tNext, tAsg, gName, tRet, tRetN, tIfS, tOp, tUn, rI, rI0, rU, tTest, tB, tAnd, tOr, tNot, tAndV, tOrV, tNotV, tIf, tCons, tNil, tTup, tLst, tCall, tCallS, tMeth, tMake, tFld, sFld, tBM, tBM0, tCB, tSl, tPart, tNoPart, tDrop, tPar, tPar3, tAug, ipI, gTup, gCons, gNil, gSub, rSetL, rAppend, rPop, rIxL, rIxS, rIxT, rEq, rNe, tChain, tNever, tThen, tVar, tC, L2.start, List.map_cons, List.map_nil, List.length_cons, List.length_nil, List.replicate_succ, List.replicate_zero, List.append_nil, List.nil_append, List.cons_append, Nat.reduceAdd, Nat.reduceSub, Nat.add_zero, Nat.zero_add, Nat.sub_zero, Nat.sub_self,
  List.getElem?_cons_zero, List.getElem?_cons_succ, Option.some.injEq, exists_eq_left', exists_eq_left, exists_eq', exists_eq, exists_and_left, List.set_cons_zero, List.set_cons_succ, V.int.injEq, V.bl.injEq, V.str.injEq, V.ref.injEq, V.ty.injEq, List.cons.injEq, and_true, true_and, and_assoc, if_true, if_false, Bool.false_eq_true, reduceCtorEq, false_and, and_false, exists_false, false_or, or_false, Bool.not_true, Bool.not_false, decide_eq_true_eq, ite_true, ite_false, WE, cxOf_K, cxOf_mg, rSlS, scal, wipe, mem_low, mem_dig, mem_brk, mem_brk4, sgn_inj, Bool.decide_eq_true])

/-- all that is had, each with how it came in -/
def Had (known ev : List Te) (rows : List Row) : Prop := Valid known rows ∧ ∃ n, (∀ t, t ∈ rts rows ↔ rnd known ev n t) ∧ ∀ t, ¬ nxt ev (rnd known ev n) t
def spHad (K : PySem.W.Frag) : Sp := fun vs H Q _ => ∃ a xs known b ys wanted, vs = [.ref a, .ref b] ∧ SqT K H a xs ∧ Trs K H xs known ∧ SqA K H b ys ∧ Trs K H ys wanted ∧ (∀ t ∈ known ++ wanted, t.ok) ∧ (known ++ wanted).length ≤ 80 ∧ sizes (known ++ wanted) ≤ 900 ∧
  ∀ k D rows H', Same H H' → H k = none → H D = none → KAt K H' k D rows → Had known (subsT (known ++ wanted)) rows → Q (.ref k) H'
theorem subsT_closed {ts : List Te} : ∀ t ∈ subsT ts, ∀ p ∈ t.parts, p ∈ subsT ts := fun t ht p hp => by
  obtain ⟨u, hu, hs⟩ := (subsT_mem ts t).mp ht
  exact (subsT_mem ts p).mpr ⟨u, hu, .part hp hs⟩
theorem subsT_self {ts : List Te} {t : Te} (h : t ∈ ts) : t ∈ subsT ts := (subsT_mem ts t).mpr ⟨t, h, .rfl t⟩
theorem known_valid (ts : List Te) : Valid ts (knownRows ts) := by
  intro i r h
  unfold knownRows at h
  rw [List.getElem?_map] at h
  obtain ⟨t, ht, rfl⟩ := Option.map_eq_some_iff.mp h
  exact ⟨⟨rfl, (dedup_mem ts t).mp (List.mem_of_getElem? ht)⟩, fun p hp => nomatch hp⟩
/-- one more round -/
theorem rnd_step {known ev : List Te} {rows more : List Row} {n : Nat} (h : ∀ t, t ∈ rts rows ↔ rnd known ev n t) (g : ∀ t, t ∈ rts more ↔ nxt ev (fun t => t ∈ rts rows) t) : ∀ t, t ∈ rts (rows ++ more) ↔ rnd known ev (n + 1) t := by
  intro t
  rw [rts_app, List.mem_append, h, g, nxt_cong (fun _ => Iff.rfl) h]
  rfl
theorem nxt_rnd {known ev : List Te} {rows : List Row} {n : Nat} (h : ∀ t, t ∈ rts rows ↔ rnd known ev n t) (t : Te) : nxt ev (fun t => t ∈ rts rows) t ↔ nxt ev (rnd known ev n) t := nxt_cong (fun _ => Iff.rfl) h t
def hInv (K : PySem.W.Frag) (H : Hp) (a b e x D : Addr) (evs : List V) (known ev : List Te) (m : Nat) (σ : L2.St) (H6 : Hp) : Prop := ∃ k' D' rows more n, σ = [some (V.ref a), some (V.ref b), some (V.ref e), some (V.ref x), some (V.ref k')] ∧ Same H H6 ∧ H6 e = some (.lst evs) ∧ Trs K H6 evs ev ∧ KAt K H6 x D rows ∧ KAt K H6 k' D' more ∧ D ≠ D' ∧ Valid known rows ∧ (∀ t, t ∈ rts rows ↔ rnd known ev n t) ∧ (∀ t, t ∈ rts more ↔ nxt ev (fun t => t ∈ rts rows) t) ∧ (∀ r ∈ more, StepS (rts rows) r.1 r.2.1 r.2.2) ∧ m = 901 - rows.length
section
variable {P : Program} {w : World} {K : PySem.W.Frag} {mg : Str → Option Value} {base : Heap}
theorem o_had_of (W : Wd fa fn K mg) : OkF P w K mg base d_had_of 63 ["known", "wanted"] (spHad K) := by
  have o_subterms_of := (o_subterms_of (P := P) (w := w) (base := base) W).mono (show 60 ≤ 62 by decide)
  have o_next_round := (o_next_round (P := P) (w := w) (base := base) W).mono (show 62 ≤ 62 by decide)
  have o_taken_in := (o_taken_in (P := P) (w := w) (base := base) W).mono (show 62 ≤ 62 by decide)
  have o_Kept___init__ := (o_Kept___init__ (P := P) (w := w) (base := base) W).mono (show 60 ≤ 61 by decide)
  obtain ⟨fd_subterms_of, F_subterms_of, b_subterms_of, k_subterms_of⟩ := o_subterms_of.ex; obtain ⟨fd_Kept___init__, F_Kept___init__, b_Kept___init__, k_Kept___init__⟩ := o_Kept___init__.ex; obtain ⟨fd_next_round, F_next_round, b_next_round, k_next_round⟩ := o_next_round.ex; obtain ⟨fd_taken_in, F_taken_in, b_taken_in, k_taken_in⟩ := o_taken_in.ex
  refine okf W (d := d_had_of) 19 sc_had_of rfl rfl (fun _ _ _ _ _ _ us hl => match us, hl with | [_, _], _ => rfl) ?len (fun cdv A outer s H vs Q E hr nd hu tk po h => ?body)
  case len =>
    rintro vs H Q E ⟨_, _, _, _, _, _, rfl, _⟩
    rfl
  case body =>
    refine ⟨_, (pss_cons (ps_set (i := 2) nd rfl (by first | exact Or.inl rfl | exact Or.inr rfl) (by exact (pe_callS F_subterms_of (hr.mono (by first | decide | omega)) rfl (W.glo 38) k_subterms_of b_subterms_of (fun σ => passAt tk σ) (by exact (pa_cons (pe_op op_cat (pe_callTy call_list_of (by rfl) (W.free 21) (by decide +kernel) (pa_cons (pv 0) pa_nil)) (pe_callTy call_list_of (by rfl) (W.free 21) (by decide +kernel) (pa_cons (pv 1) pa_nil))) pa_nil)))))
    (pss_cons (ps_set (i := 3) nd rfl (by first | exact Or.inl rfl | exact Or.inr rfl) (pe_make (W.mkr 32) F_Kept___init__ (hr.mono (by first | decide | omega)) rfl (W.glo 31) b_Kept___init__ .nil passL (pa_cons (pv 0) pa_nil)))
    (pss_cons (ps_set (i := 4) nd rfl (by first | exact Or.inl rfl | exact Or.inr rfl) (by exact (pe_callS F_next_round (hr.mono (by first | decide | omega)) rfl (W.glo 39) k_next_round b_next_round (fun σ => passAt tk σ) (by exact (pa_cons (pv 2) (pa_cons (pv 3) pa_nil))))))
    (pss_cons (ps_while po (pt_cmpR op_gt (pe_callB call_lenD (by rfl) (W.free 7) (by decide +kernel) (pa_cons (pe_fld (pv 4) rfl) pa_nil)) pe_int (nomark _))
      (pss_cons (ps_expr (by exact (pe_callS F_taken_in (hr.mono (by first | decide | omega)) rfl (W.glo 40) k_taken_in b_taken_in (fun σ => passAt tk σ) (by exact (pa_cons (pv 3) (pa_cons (pv 4) pa_nil))))))
    (pss_one (ps_set (i := 4) nd rfl (by first | exact Or.inl rfl | exact Or.inr rfl) (by exact (pe_callS F_next_round (hr.mono (by first | decide | omega)) rfl (W.glo 39) k_next_round b_next_round (fun σ => passAt tk σ) (by exact (pa_cons (pv 2) (pa_cons (pv 3) pa_nil)))))))))
    (pss_one (ps_ret (pv 3))))))), ?_⟩
    obtain ⟨a, xs, known, b, ys, wanted, rfl, ha, hx, hb, hy, hok, hlen, hsz, hq⟩ := h
    clear tk po
    have szl := sizeLine_eq
    walk_at "x"
    refine ⟨_, .inr ha, fun l hl => ?_⟩
    have s1 := Same.new (o := HO.lst xs) hl
    refine ⟨ys, hb.same s1, fun l2 hl2 => ?_⟩
    have s2 := Same.trans s1 (Same.new (o := HO.lst ys) hl2)
    have hll : (upd (upd H l (HO.lst xs)) l2 (HO.lst ys)) l = some (.lst xs) := by
      rw [upd_ne (fun e => by rw [← e, upd_same] at hl2; cases hl2), upd_same]
    have hxl := hx.len
    have hyl := hy.len
    rw [List.length_append] at hlen
    refine ⟨l, l2, xs, ys, rfl, rfl, hll, upd_same, by omega, fun l3 hl3 => ?_⟩
    have s3 := Same.trans s2 (Same.new (o := HO.lst (xs ++ ys)) hl3)
    refine subs_call (.l upd_same) (Trs.app (Trs.sm s3 hx) (Trs.sm s3 hy)) hok (by rw [List.length_append]; omega) fun e evs H4 s4' he he4 hev => ?_
    have s4 := Same.trans s3 s4'
    have okE := subsT_ok hok
    have hel := subsT_len (known ++ wanted)
    intro x dx hx0 hdx hne
    have s5 := Same.trans s4 (Same.new (o := HO.own x) hdx)
    have hx2 : (upd H4 dx (HO.own x)) x = none := by rw [upd_ne hne.symm]; exact hx0
    have s6' := Same.trans (Same.new (o := HO.own x) hdx) (Same.new (o := HO.ins (He.ga K d_Kept___init__.at_.fst) dx []) hx2)
    have s6 := Same.trans s4 s6'
    have hxH : H x = none := Same.none s4 hx0
    refine ⟨x, dx, a, xs, known, rfl, upd_same, .inr ((Tx.of s6).sqt ha), Trs.sm s6 hx, (fun t ht => hok t (List.mem_append_left _ ht)), by omega, fun D B0 hD oB gk => ⟨rfl, ?_⟩⟩
    have sB4 : Same H4 B0 := fun a o e => oB a o (ne_of_none e hx0) (s6' a o e)
    have sB := Same.trans s4 sB4
    have hDH : H D = none := Same.none s6 hD
    have heB := sB4 _ _ he4
    have hevB := Trs.sm sB4 hev
    have hsub : ∀ n t, rnd known (subsT (known ++ wanted)) n t → t ∈ subsT (known ++ wanted) := rnd_in (fun t ht => subsT_self (List.mem_append_left _ ht)) subsT_closed
    have h0 : ∀ t, t ∈ rts (knownRows known) ↔ rnd known (subsT (known ++ wanted)) 0 t := fun t => by rw [rts_known, dedup_mem]; rfl
    clear s1 s2 s3 hll oB s5 s6 s6'
    refine ⟨e, evs, subsT (known ++ wanted), x, D, knownRows known, rfl, heB, hevB, okE, by omega, subsT_closed, gk, (fun t ht => hsub 0 t ((h0 t).mp ht)), fun k' D' more H5 s5 hk' hD' gm hmn hms => ?_⟩
    unfold tWhile
    refine ⟨hInv K H a b e x D evs known (subsT (known ++ wanted)),
      ⟨_, k', D', knownRows known, more, 0, rfl, Same.trans sB s5, s5 _ _ heB, Trs.sm s5 hevB, gk.same s5, gm, (fun e => by obtain ⟨kvs, h⟩ := gk.has; rw [e, hD'] at h; cases h), known_valid known, h0, hmn, hms, rfl⟩, ?_⟩
    rintro m σ H6 ⟨k', D', rows, more, n, rfl, s6, he6, hev6, g6, gm6, hne6, hv6, hr6, hm6, hst6, rfl⟩
    have gm6' := gm6
    obtain ⟨⟨dxm, mvs, hm1, hm2, hm3⟩, mnd, mok, mln⟩ := gm6'
    have hml := DpAll.length hm3
    rw [List.length_map] at hml
    walk_at "x"
    refine ⟨_, _, _, hm1, W.cls 27, W.noat 71, .ref D', rfl, D', rfl, _, hm2, ?_⟩
    rw [dkE_len (by rw [rts_len, hml]), rts_len]
    have inE : ∀ t ∈ rts rows, t ∈ subsT (known ++ wanted) := fun t ht => hsub n t ((hr6 t).mp ht)
    have hrl := nodup_len g6.nd inE
    rw [rts_len] at hrl
    by_cases hz : more = []
    · subst hz
      rw [if_neg (by simp)]
      refine hq x D rows H6 s6 hxH hDH g6 ⟨hv6, n, hr6, fun t ht => ?_⟩
      have := (hm6 t).mpr ((nxt_rnd hr6 t).mpr ht)
      simp [rts] at this
    · have hpos : 0 < more.length := List.length_pos_iff.mpr hz
      rw [if_pos (by omega)]
      refine ⟨fun σ' H' => ∃ m', m' < 901 - rows.length ∧ hInv K H a b e x D evs known (subsT (known ++ wanted)) m' σ' H', fun σ' H' h => h, ?_⟩
      have hdis : ∀ t ∈ rts more, t ∉ rts rows := fun t ht => ((hm6 t).mp ht).1
      have hmE : ∀ t ∈ rts more, t ∈ subsT (known ++ wanted) := fun t ht => nxt_in inE subsT_closed ((hm6 t).mp ht)
      have hal : rows.length + more.length ≤ 900 := by
        have hn2 : (rts rows ++ rts more).Nodup := List.nodup_append.mpr ⟨g6.nd, mnd, fun a ha b hb e => hdis b hb (e ▸ ha)⟩
        have := nodup_len hn2 (b := subsT (known ++ wanted)) fun t ht => by
          rcases List.mem_append.mp ht with h | h
          · exact inE t h
          · exact hmE t h
        rw [List.length_append, rts_len, rts_len] at this
        omega
      refine ⟨x, D, rows, k', D', more, rfl, g6, gm6, hne6, hdis, by omega, fun H7 o7 g7 => ?_⟩
      have he7 := o7.lst g6 he6
      have hev7 := hev6.tx (o7.txk g6)
      have s7 : Same H H7 := Off.same s6 hDH o7
      have hr7 := rnd_step hr6 hm6
      have hv7 : Valid known (rows ++ more) := hv6.app fun r hr => ⟨(hst6 r hr).1 known, (hst6 r hr).2⟩
      refine ⟨e, evs, subsT (known ++ wanted), x, D, rows ++ more, rfl, he7, hev7, okE, by omega, subsT_closed, g7, (fun t ht => hsub (n + 1) t ((hr7 t).mp ht)), fun k2 D2 more2 H8 s8 hk2 hD2 gm8 hmn8 hms8 => ?_⟩
      refine ⟨901 - (rows ++ more).length, by rw [List.length_append]; omega, k2, D2, rows ++ more, more2, n + 1, rfl, Same.trans s7 s8, s8 _ _ he7, Trs.sm s8 hev7, g7.same s8, gm8, (fun e => by obtain ⟨kvs, h⟩ := g7.has; rw [e, hD2] at h; cases h), hv7, hr7, hmn8, hms8, rfl⟩
end
end WW

set_option maxHeartbeats 4000000
namespace WW
open PySem PySem.Spec PyProof.Rows L2
local macro_rules | `(tactic| walk_at "x") => `(tactic| simp only [tSeq, tNext, tAsg, gName, tRet, tRetN, tIfS, tOp, tUn, rI, rI0, rU, tTest, tB, tAnd, tOr, tNot, tAndV, tOrV, tNotV, tIf, tCons, tNil, tTup, tLst, tCall, tCallS, tMeth, tMake, tFld, sFld, tBM, tBM0, tCB, tSl, tPart, tNoPart, tDrop, tPar, tPar3, tAug, ipI, gTup, gCons, gNil, gSub, rSetL, rAppend, rPop, rIxL, rIxS, rIxT, rEq, rNe, tChain, tNever, tThen, tVar, tC, L2.start, List.map_cons, List.map_nil, List.length_cons, List.length_nil, List.replicate_succ, List.replicate_zero, List.append_nil, List.nil_append, List.cons_append, Nat.reduceAdd, Nat.reduceSub, Nat.add_zero, Nat.zero_add, Nat.sub_zero, Nat.sub_self,
  List.getElem?_cons_zero, List.getElem?_cons_succ, Option.some.injEq, exists_eq_left', exists_eq_left, exists_eq', exists_eq, exists_and_left, List.set_cons_zero, List.set_cons_succ, V.int.injEq, V.bl.injEq, V.str.injEq, V.ref.injEq, V.ty.injEq, List.cons.injEq, and_true, true_and, and_assoc, if_true, if_false, Bool.false_eq_true, reduceCtorEq, false_and, and_false, exists_false, false_or, or_false, Bool.not_true, Bool.not_false, decide_eq_true_eq, ite_true, ite_false, WE, cxOf_K, cxOf_mg, rSlS, scal, wipe, mem_low, mem_dig, mem_brk, mem_brk4, sgn_inj, Bool.decide_eq_true])

def spLines (K : PySem.W.Frag) : Sp := fun vs H Q _ => ∃ k D rows known x wanted, vs = [.ref k, x] ∧ KAt K H k D rows ∧ Valid known rows ∧ Tr K H x wanted ∧ wanted ∈ rts rows ∧
  ∀ p lvs lines H', Same H H' → H' p = some (.tup lvs) → DpAll K H' lvs (lines.map (lineD (rts lines))) → Valid known lines → (rts lines).Nodup → (∀ r ∈ lines, r ∈ rows) → (∃ ls hw hs, lines = ls ++ [(wanted, hw, hs)]) → Q (.ref p) H'
def nums (n : Nat) : List V := (List.range n).map fun i => V.int ((i : Nat) : Int)
structure LT (K : PySem.W.Frag) (H H1 : Hp) (L Pd Wa : Addr) (l : List Te) (lines : List Row) (pl : List Te) (lvs us : List V) : Prop where
  sm : Same H H1
  bl : H L = none
  bp : H Pd = none
  bw : H Wa = none
  n1 : L ≠ Pd
  n2 : L ≠ Wa
  n3 : Pd ≠ Wa
  hl : H1 L = some (.lst lvs)
  dl : DpAll K H1 lvs (lines.map (lineD (rts lines)))
  hp : H1 Pd = some (.dK (dkE pl (nums pl.length)))
  hw : H1 Wa = some (.lst us.reverse)
  du : Trs K H1 us l
section
variable {K : PySem.W.Frag} {H H1 H2 : Hp} {L Pd Wa : Addr} {l l' : List Te} {lines : List Row} {pl : List Te} {lvs us us' : List V}
theorem LT.same (g : LT K H H1 L Pd Wa l lines pl lvs us) (t : Same H1 H2) : LT K H H2 L Pd Wa l lines pl lvs us :=
  ⟨Same.trans g.sm t, g.bl, g.bp, g.bw, g.n1, g.n2, g.n3, t _ _ g.hl, Dp.sms t _ _ g.dl, t _ _ g.hp, t _ _ g.hw, Trs.sm t g.du⟩
theorem LT.setW (g : LT K H H1 L Pd Wa l lines pl lvs us) (hd : Trs K H1 us' l') : LT K H (upd H1 Wa (.lst us'.reverse)) L Pd Wa l' lines pl lvs us' := by
  have t : Tx H1 (upd H1 Wa (.lst us'.reverse)) := Tx.up g.hw noTup_l
  exact ⟨Same.mut g.sm g.bw, g.bl, g.bp, g.bw, g.n1, g.n2, g.n3, by rw [upd_ne g.n2]; exact g.hl, Dp.txs t _ _ (imm_lines _ _) g.dl, by rw [upd_ne g.n3]; exact g.hp, upd_same, hd.tx t⟩
theorem LT.setP (g : LT K H H1 L Pd Wa l lines pl lvs us) {t : Te} (ht : t ∉ pl) : LT K H (upd H1 Pd (.dK (putK (dkE pl (nums pl.length)) (kE t) (.int ((pl.length : Nat) : Int))))) L Pd Wa l lines (pl ++ [t]) lvs us := by
  have tX : Tx H1 (upd H1 Pd (.dK (putK (dkE pl (nums pl.length)) (kE t) (.int ((pl.length : Nat) : Int))))) := Tx.up g.hp noTup_d
  refine ⟨Same.mut g.sm g.bp, g.bl, g.bp, g.bw, g.n1, g.n2, g.n3, by rw [upd_ne g.n1]; exact g.hl, Dp.txs tX _ _ (imm_lines _ _) g.dl, ?_, by rw [upd_ne g.n3.symm]; exact g.hw, g.du.tx tX⟩
  rw [upd_same, dkE_put (by simp [nums]) ht]
  congr 3
  unfold nums
  rw [List.length_append, List.length_singleton, List.range_succ, List.map_append]
  rfl
theorem LT.setL (g : LT K H H1 L Pd Wa l lines pl lvs us) {known : List Te} (v : Valid known lines) {r : Row} (h : ∀ p ∈ r.2.2, p ∈ rts lines) {x : V} (hx : Dp K H1 x (lineD (rts lines) r)) : LT K H (upd H1 L (.lst (lvs ++ [x]))) L Pd Wa l (lines ++ [r]) pl (lvs ++ [x]) us := by
  have tX : Tx H1 (upd H1 L (.lst (lvs ++ [x]))) := Tx.up g.hl noTup_l
  refine ⟨Same.mut g.sm g.bl, g.bl, g.bp, g.bw, g.n1, g.n2, g.n3, upd_same, ?_, by rw [upd_ne g.n1.symm]; exact g.hp, by rw [upd_ne g.n2.symm]; exact g.hw, g.du.tx tX⟩
  rw [linesD_snoc v h]
  exact DpAll.app (Dp.txs tX _ _ (imm_lines _ _) g.dl) (.cons (Dp.tx tX _ _ (imm_line _ _) hx) .nil)
theorem nums_at {n i : Nat} (h : i < n) : (nums n)[i]? = some (.int ((i : Nat) : Int)) := by
  unfold nums
  rw [List.getElem?_map, List.getElem?_range h]
  rfl
theorem place_at {t : Te} (hn : pl.Nodup) (h : t ∈ pl) : valV (dkE pl (nums pl.length)) (kE t) = some (.int ((ixE pl t : Nat) : Int)) := dkE_some hn (ixE_at h) (nums_at (ixE_lt h))
end
def lInv (K : PySem.W.Frag) (H : Hp) (k L Pd Wa : Addr) (x : V) (rows : List Row) (known : List Te) (wanted : Te) (m : Nat) (σ : L2.St) (H1 : Hp) : Prop := ∃ l lines lvs us y5 y6 y7 y8 y9, σ = [some (.ref k), some x, some (.ref L), some (.ref Pd), some (.ref Wa), y5, y6, y7, y8, y9] ∧
  LT K H H1 L Pd Wa l lines (rts lines) lvs us ∧ LS rows known wanted l lines ∧ m = lsM rows l lines
section
variable {P : Program} {w : World} {K : PySem.W.Frag} {mg : Str → Option Value} {base : Heap}
theorem o_lines_to (W : Wd fa fn K mg) : OkF P w K mg base d_lines_to 61 ["found", "wanted"] (spLines K) := by
  have o_shown := (o_shown (P := P) (w := w) (base := base) W 40).mono (show 40 + 1 ≤ 60 by decide)
  have o_Kept_how := (o_Kept_how (P := P) (w := w) (base := base) W).mono (show 60 ≤ 60 by decide)
  obtain ⟨fd_Kept_how, F_Kept_how, b_Kept_how, k_Kept_how⟩ := o_Kept_how.ex; obtain ⟨fd_shown, F_shown, b_shown, k_shown⟩ := o_shown.ex
  refine okf W (d := d_lines_to) 20 sc_lines_to rfl rfl (fun _ _ _ _ _ _ us hl => match us, hl with | [_, _], _ => rfl) ?len (fun cdv A outer s H vs Q E hr nd hu tk po h => ?body)
  case len =>
    rintro vs H Q E ⟨_, _, _, _, _, _, rfl, _⟩
    rfl
  case body =>
    refine ⟨_, (pss_cons (ps_asg (pe_tup (pa_cons (pe_lst pa_nil) (pa_cons pe_dnewK (pa_cons (pe_lst (pa_cons (pv 1) pa_nil)) pa_nil)))) (pg_tup rfl (pgs_cons (pg_name (i := 2) nd rfl (by first | exact Or.inl rfl | exact Or.inr rfl)) (pgs_cons (pg_name (i := 3) nd rfl (by first | exact Or.inl rfl | exact Or.inr rfl)) (pgs_cons (pg_name (i := 4) nd rfl (by first | exact Or.inl rfl | exact Or.inr rfl)) pgs_nil)))))
    (pss_cons (ps_while po (pt_cmpR op_gt (pe_callB call_len (by rfl) (W.free 7) (by decide +kernel) (pa_cons (pv 4) pa_nil)) pe_int (nomark _))
      (pss_cons (ps_set (i := 5) nd rfl (by first | exact Or.inl rfl | exact Or.inr rfl) (pe_ix ix_list (pv 4) (pe_un un_neg pe_int) (fun _ _ => rfl)))
    (pss_cons (ps_asg (pe_meth (pv 0) (W.cls 27) (W.meth 37) F_Kept_how (hr.mono (by first | decide | omega)) b_Kept_how .nil (passes_call tk (fun _ _ _ _ h => h)) (pa_cons (pv 5) pa_nil)) (pg_tup rfl (pgs_cons (pg_name (i := 6) nd rfl (by first | exact Or.inl rfl | exact Or.inr rfl)) (pgs_cons (pg_name (i := 7) nd rfl (by first | exact Or.inl rfl | exact Or.inr rfl)) pgs_nil))))
    (pss_cons (ps_setLc (i := 8) (own := [("one", 9)]) (g := (gName 9)) rfl nd rfl rfl (sw_true rfl rfl rfl (by decide +kernel)) (pi_tup (pv 7)) (blkOk_by (own := [("one", 9)]) (N := ["found", "wanted", "lines", "places", "waiting", "term", "word", "hangs", "open_ones", "one"]) (sc := defScope s_lines_to) (by decide +kernel)) (fun _ _ _ _ _ => (pg_name (i := 9) nd rfl (by first | exact Or.inl rfl | exact Or.inr rfl))) (fun _ _ _ _ _ => (pts_one (pt_cmp (pc_dnotin hu (pe_call F_shown (hr.mono (by first | decide | omega)) rfl (W.glo 22) k_shown b_shown .nil passL (pa_cons (pv 9) pa_nil)) (pv 3)) rfl))) (fun _ _ _ _ _ => (pv 9)))
    (pss_one (ps_if (pt_cmp (pc_din hu (by exact (pe_callS F_shown (hr.mono (by first | decide | omega)) rfl (W.glo 22) k_shown b_shown (fun σ => passAt tk σ) (by exact (pa_cons (pv 5) pa_nil)))) (pv 3)) rfl) (pss_one (ps_expr (pe_bm0 PySem.F.plainAttrs_list PySem.F.slot_list_pop PySem.F.type_list_pop mt_pop (pv 4)))) (pss_one (ps_if (pt_cmpR op_gt (pe_callB call_len (by rfl) (W.free 7) (by decide +kernel) (pa_cons (pv 8) pa_nil)) pe_int (nomark _)) (pss_one (ps_expr (pe_bm PySem.F.plainAttrs_list PySem.F.slot_list_extend PySem.F.type_list_extend mt_extend (pv 4) (pa_cons (pe_revL (pv 8)) pa_nil)))) (pss_cons (ps_dput hu (pv 3) (by exact (pe_callS F_shown (hr.mono (by first | decide | omega)) rfl (W.glo 22) k_shown b_shown (fun σ => passAt tk σ) (by exact (pa_cons (pv 5) pa_nil)))) (pe_callB call_len (by rfl) (W.free 7) (by decide +kernel) (pa_cons (pv 2) pa_nil)) rfl)
    (pss_cons (ps_expr (pe_bm PySem.F.plainAttrs_list PySem.F.slot_list_append PySem.F.type_list_append mt_append (pv 2) (pa_cons (pe_tup (pa_cons (pv 6) (pa_cons (pv 5) (pa_cons (pe_callTy call_tuple_of (by rfl) (W.free 14) (by decide +kernel) (pa_cons (pe_lc (own := [("one", 9)]) (g := (gName 9)) (tt := tYes) rfl nd (pi_tup (pv 7)) (blkOk_by (own := [("one", 9)]) (N := ["found", "wanted", "lines", "places", "waiting", "term", "word", "hangs", "open_ones", "one"]) (sc := defScope s_lines_to) (by decide +kernel)) (fun _ _ _ _ _ => (pg_name (i := 9) nd rfl (by first | exact Or.inl rfl | exact Or.inr rfl))) (fun _ _ _ _ _ => pts_nil) (fun _ _ _ _ _ => (pe_dget hu (pv 3) (pe_call F_shown (hr.mono (by first | decide | omega)) rfl (W.glo 22) k_shown b_shown .nil passL (pa_cons (pv 9) pa_nil)) (fun _ _ => rfl)))) pa_nil)) pa_nil)))) pa_nil)))
    (pss_one (ps_expr (pe_bm0 PySem.F.plainAttrs_list PySem.F.slot_list_pop PySem.F.type_list_pop mt_pop (pv 4))))))))))))))
    (pss_one (ps_ret (pe_callTy call_tuple_of (by rfl) (W.free 14) (by decide +kernel) (pa_cons (pv 2) pa_nil)))))), ?_⟩
    obtain ⟨k, D, rows, known, x, wanted, rfl, g, hv, hx, hwm, hq⟩ := h
    clear tk po
    have szl := sizeLine_eq
    simp only [tSeq, tNext, tAsg, gName, tRet, tRetN, tIfS, tOp, tUn, rI, rI0, rU, tTest, tB, tAnd, tOr, tNot, tAndV, tOrV, tNotV, tIf, tCons, tNil, tTup, tLst, tCall, tCallS, tMeth, tMake, tFld, sFld, tBM, tBM0, tCB, tSl, tPart, tNoPart, tDrop, tPar, tPar3, tAug, ipI, gTup, gCons, gNil, gSub, rSetL, rAppend, rPop, rIxL, rIxS, rIxT, rEq, rNe, tChain, tNever, tThen, tVar, tC, L2.start, List.map_cons, List.map_nil, List.length_cons, List.length_nil, List.replicate_succ, List.replicate_zero, List.append_nil, List.nil_append, List.cons_append, Nat.reduceAdd, Nat.reduceSub, Nat.add_zero, Nat.zero_add, Nat.sub_zero, Nat.sub_self,
  List.getElem?_cons_zero, List.getElem?_cons_succ, Option.some.injEq, exists_eq_left', exists_eq_left, exists_eq', exists_eq, exists_and_left, List.set_cons_zero, List.set_cons_succ, V.int.injEq, V.bl.injEq, V.str.injEq, V.ref.injEq, V.ty.injEq, List.cons.injEq, and_true, true_and, and_assoc, if_true, if_false, Bool.false_eq_true, reduceCtorEq, false_and, and_false, exists_false, false_or, or_false, Bool.not_true, Bool.not_false, decide_eq_true_eq, ite_true, ite_false, WE, cxOf_K, cxOf_mg, rSlS, scal, wipe, mem_low, mem_dig, mem_brk, mem_brk4, sgn_inj, Bool.decide_eq_true, HO.ins.injEq, HO.lst.injEq, HO.tup.injEq, upd_same, ne_eq, not_false_eq_true, tDNewK]
    refine ⟨by decide, fun L hL Pd hPd => ⟨by decide, fun Wa hWa => ?_⟩⟩
    have n1 : L ≠ Pd := fun e => by rw [← e, upd_same] at hPd; cases hPd
    rw [upd_ne n1.symm] at hPd
    have n3 : Pd ≠ Wa := fun e => by rw [← e, upd_same] at hWa; cases hWa
    rw [upd_ne n3.symm] at hWa
    have n2 : L ≠ Wa := fun e => by rw [← e, upd_same] at hWa; cases hWa
    rw [upd_ne n2.symm] at hWa
    have sA := Same.mut (o := HO.lst [x]) (Same.mut (o := HO.dK []) (Same.new (o := HO.lst []) hL) hPd) hWa
    have gA : LT K H (upd (upd (upd H L (HO.lst [])) Pd (HO.dK [])) Wa (HO.lst [x])) L Pd Wa [wanted] [] [] [] [x] :=
      ⟨sA, hL, hPd, hWa, n1, n2, n3, by rw [upd_ne n2, upd_ne n1, upd_same], .nil, by rw [upd_ne n3, upd_same]; rfl, by rw [upd_same]; rfl, .cons (Tr.sm sA hx) .nil⟩
    refine ⟨by decide, fun p0 hp0 => ⟨_, SqT.of upd_same, rfl, _, _, rfl, _, _, rfl, _, _, rfl, rfl, ?_⟩⟩
    have gB := gA.same (Same.new (o := HO.tup [V.ref L, V.ref Pd, V.ref Wa]) hp0)
    clear sA gA
    unfold tWhile
    refine ⟨lInv K H k L Pd Wa x rows known wanted, ⟨_, [wanted], [], [], [x], none, none, none, none, none, rfl, gB, LS.start hwm, rfl⟩, ?_⟩
    rintro m σ H1 ⟨l, lines, lvs, us, y5, y6, y7, y8, y9, rfl, gl, ls, rfl⟩
    have hul := gl.du.len
    have g1 := g.same gl.sm
    have gln := g.ln
    have hll := ls.lines_le
    have hln := ls.len
    walk_at "x"
    refine ⟨us.length, .inl ⟨_, SqL.of gl.hw, by simp⟩, ?_⟩
    cases l with
    | nil =>
      rw [if_neg (by rw [hul]; decide)]
      have hb : ∃ ls hw hs, lines = ls ++ [(wanted, hw, hs)] := by
        rcases ls.bot with ⟨l', e, _⟩ | ⟨_, h⟩
        · cases l' <;> cases e
        · exact h
      refine ⟨lvs, .inl ⟨SqL.of gl.hl, fun q hq' => ?_⟩⟩
      have s2 := Same.trans gl.sm (Same.new (o := HO.tup lvs) hq')
      exact hq q lvs lines _ s2 upd_same (Dp.sms (Same.new hq') _ _ gl.dl) ls.val ls.nd ls.sub hb
    | cons t l =>
      obtain ⟨v, us', rfl⟩ : ∃ v us', us = v :: us' := by
        cases us with
        | nil => simp at hul
        | cons v us' => exact ⟨v, us', rfl⟩
      rw [if_pos (by rw [List.length_cons]; omega)]
      obtain ⟨hvt, hus'⟩ : Tr K H1 v t ∧ Trs K H1 us' l := by
        have := gl.du
        unfold Trs at this
        cases this with
        | cons h1 h2 => exact ⟨h1, h2⟩
      have tin := ls.inn t (List.mem_cons_self ..)
      obtain ⟨hw, hs, hrow⟩ := row_of tin
      have tok := g.ok t tin
      obtain ⟨dx, hk⟩ := g1.ins
      refine ⟨fun σ' H' => ∃ m', m' < lsM rows (t :: l) lines ∧ lInv K H k L Pd Wa x rows known wanted m' σ' H', fun σ' H' h => h, _, SqL.of gl.hw, v, by rw [List.reverse_cons]; exact atI_last _ _, _, _, hk, rfl, k, D, rows, v, t, hw, hs, rfl, g1, hvt, hrow, fun r H2 s2 hr => ?_⟩
      have gl2 := gl.same s2
      have hvt2 := Tr.sm s2 hvt
      unfold howD at hr
      cases hr with
      | @tup pr ws ds k1 k2 =>
      cases k2 with
      | @cons w0 ws1 _ _ k3 k4 =>
      cases k3
      cases k4 with
      | @cons vh ws2 _ _ kh k5 =>
      cases k5
      cases kh with
      | @tup ph hvs _ m1 m2 =>
      simp only [gTup, gCons, gNil, gName, List.set_cons_zero, List.set_cons_succ]
      refine ⟨pr, rfl, _, k1, rfl, _, _, rfl, _, _, rfl, rfl, ?_⟩
      have hso : ∀ u ∈ hs, u.ok := fun u hu => g.ok u (hv.lt g.nd hrow hu).1
      have hsl := stp_len (hv.stp hrow)
      simp only at hsl
      have hvl := Trs.len m2
      have had2 : HadAt H2 Pd (rts lines) := ⟨_, gl2.hp, by simp [nums], ls.nd⟩
      refine tLc_filt (walk_tup (K := K) (a := ph) (xs := hvs)) (by omega) m2 (fun R hR => ⟨_, rfl, ph, rfl, ⟨_, m1⟩, hR⟩) (fun H' s => (Tx.of s).sqt m1) (fun _ => rfl) (fun _ => rfl) (fun u => !decide (u ∈ rts lines)) ?_ ?_
      · intro u xu H3 R hu hxu s3 hR
        have ut := (hso u hu).tm
        simp only [tB, tDNotIn]
        walk_at "x"
        refine ⟨xu, u.enc, rfl, hxu, ut.flat, by have := ut.len; omega, fun H4 s4 => ?_⟩
        obtain ⟨dvs, d1, d2, d3⟩ := had2.same (Same.trans s3 s4)
        refine ⟨_, DGet.k d1 (k := kE u), ?_⟩
        rw [dkE_has d2 d3]
        exact hR H4 s4
      intro D8 oys H3 s3 hD8 hoys hos
      have gl3 := gl2.same s3
      have tt := tok.tm
      have hvt3 := Tr.sm s3 hvt2
      simp only [tDIn]
      walk_at "x"
      refine ⟨v, t.enc, rfl, hvt3, tt.flat, by have := tt.len; omega, fun H4 s4 => ?_⟩
      have gl4 := gl3.same s4
      have hoys4 := s4 _ _ hoys
      have hos4 := Trs.sm s4 hos
      have m24 := Trs.sm (Same.trans s3 s4) m2
      have m14 := (Tx.of (Same.trans s3 s4)).sqt m1
      have hvt4 := Tr.sm s4 hvt3
      have hus4 := Trs.sm (Same.trans s2 (Same.trans s3 s4)) hus'
      obtain ⟨dvs, d1, d2, d3⟩ : HadAt H4 Pd (rts lines) := ⟨_, gl4.hp, by simp [nums], ls.nd⟩
      refine ⟨_, DGet.k d1 (k := kE t), ?_⟩
      rw [dkE_has d2 d3]
      have hw4 : H4 Wa = some (.lst (us'.reverse ++ [v])) := by rw [← List.reverse_cons]; exact gl4.hw
      have ix : (us'.reverse ++ [v])[(us'.reverse ++ [v]).length - 1]? = some v := by simp
      have dl : (us'.reverse ++ [v]).dropLast = us'.reverse := List.dropLast_concat
      have hol := Trs.len hos
      by_cases htl : t ∈ rts lines
      · rw [decide_eq_true htl]
        obtain ⟨p1, p2⟩ := ls.pop htl
        refine iteT ⟨tyLst hw4, _, hw4, v, ix, _, p2, l, lines, lvs, us', _, _, _, _, _, rfl, ?_, p1, rfl⟩
        rw [dl]
        exact gl4.setW hus4
      · rw [decide_eq_false htl]
        refine iteF ⟨oys.length, len_l hoys4, ?_⟩
        by_cases hoe : (hs.filter fun u => !decide (u ∈ rts lines)) = []
        · rw [hoe] at hol
          rw [if_neg (by rw [hol]; decide)]
          have hall : ∀ p ∈ hs, p ∈ rts lines := fun p hp => by
            have := List.filter_eq_nil_iff.mp hoe p hp
            simpa using this
          obtain ⟨p1, p2⟩ := ls.put htl g.nd hv hrow hall
          simp only [sDPut]
          walk_at "x"
          have hlvl := DpAll.length gl4.dl
          rw [List.length_map] at hlvl
          refine ⟨lvs.length, len_l gl4.hl, v, t.enc, rfl, hvt4, tt.flat, by have := tt.len; omega, fun H5 s5 => ?_⟩
          have gl5 := gl4.same s5
          have hus5 := Trs.sm s5 hus4
          have e0 : lvs.length = (rts lines).length := by rw [rts_len]; exact hlvl
          have nlen : (nums (rts lines).length).length = (rts lines).length := by simp [nums]
          have gP := gl5.setP htl
          have tP : Tx H5 (upd H5 Pd (.dK (putK (dkE (rts lines) (nums (rts lines).length)) (kE t) (.int (((rts lines).length : Nat) : Int))))) := Tx.up gl5.hp noTup_d
          rw [e0]
          refine ⟨_, DPut.k gl5.hp (k := kE t) (by rw [dkE_len nlen.symm, rts_len]; omega), tyLst gP.hl, ?_⟩
          have hvt6 := Tr.tx tP (Tr.sm s5 hvt4)
          have m16 := tP.sqt ((Tx.of s5).sqt m14)
          have m26 := (Trs.sm s5 m24).tx tP
          generalize (upd H5 Pd (.dK (putK (dkE (rts lines) (nums (rts lines).length)) (kE t) (.int (((rts lines).length : Nat) : Int))))) = H6 at gP hvt6 m16 m26
          have hnd2 : (rts lines ++ [t]).Nodup := List.nodup_append.mpr ⟨ls.nd, by simp, by simp; intro a ha e; exact htl (e ▸ ha)⟩
          refine tLc_map (walk_tup (K := K) (a := ph) (xs := hvs)) (by omega) (fun R hR => ⟨_, rfl, ph, rfl, ⟨_, m16⟩, hR⟩) (fun H' s => (Tx.of s).sqt m16) (fun _ => rfl) (fun i H y => ∀ q, hs[i]? = some q → y = .int ((ixE (rts lines) q : Nat) : Int)) (fun _ _ _ _ _ h => h) ?_ ?_
          · intro i xu H7 R hi hxu s7 hR
            obtain ⟨u, hu, hut⟩ := m26.get hxu
            have hum := List.mem_of_getElem? hu
            have ut := (hso u hum).tm
            have hul' := hall u hum
            simp only [tDGet]
            walk_at "x"
            refine ⟨xu, u.enc, rfl, Tr.sm s7 hut, ut.flat, by have := ut.len; omega, fun H8 s8 => ?_⟩
            have pa := place_at (pl := rts lines ++ [t]) hnd2 (List.mem_append_left _ hul')
            refine ⟨_, by rw [← pa]; exact DGet.k (s8 _ _ (s7 _ _ gP.hp)) (k := kE u), hR _ _ s8 fun q e => ?_⟩
            rw [hu] at e
            cases e
            rw [ixE_app hul']
          intro D9 ys H7 s7 hD9 hys hyl hall9
          have gl7 := gP.same s7
          refine ⟨D9, rfl, ys, .inl ⟨SqL.of hys, fun l1 hl1 => ⟨by decide, fun p2_1 hp2 => ?_⟩⟩⟩
          have dys : DpAll K H7 ys (hs.map fun p => PyData.int ((ixE (rts lines) p : Nat) : Int)) := DpAll.of_get (by rw [List.length_map]; omega) fun i y d h1 h2 => by
            rw [List.getElem?_map] at h2
            obtain ⟨q, hq', rfl⟩ := Option.map_eq_some_iff.mp h2
            rw [hall9 i y h1 q hq']
            exact .int _
          have a1 := new_tup (K := K) hl1 dys
          have s8 := Same.new (o := HO.tup ys) hl1
          have a2 := new_tup (K := K) hp2 (.cons (.str (Str.ofString hw.str)) (.cons (Tr.sm (Same.trans s7 s8) hvt6) (.cons a1 .nil)))
          have s9 := Same.new (o := HO.tup [V.str (Str.ofString hw.str), v, V.ref l1]) hp2
          have gl9 := gl7.same (Same.trans s8 s9)
          have gL := gl9.setL ls.val (r := (t, hw, hs)) hall a2
          have hwL := gL.hw
          rw [List.reverse_cons] at hwL
          refine ⟨_, gl9.hl, by omega, tyLst hwL, _, hwL, v, ix, _, p2, l, lines ++ [(t, hw, hs)], lvs ++ [.ref p2_1], us', _, _, _, _, _, rfl, ?_, p1, rfl⟩
          rw [dl, rts_app]
          refine gL.setW ?_
          have := gL.du
          unfold Trs at this
          cases this with
          | cons h1 h2 => exact h2
        · have hop : 0 < oys.length := by rw [hol]; exact List.length_pos_iff.mpr hoe
          rw [if_pos (by omega)]
          obtain ⟨p1, p2⟩ := ls.push htl g.nd hv hrow rfl hoe
          have p1l := p1.len
          rw [List.length_append, List.length_cons, ← hol] at p1l
          simp only [tRevL]
          walk_at "x"
          refine ⟨tyLst hw4, oys, SqL.of hoys4, fun q hq' => ⟨Wa, q, _, oys.reverse, rfl, rfl, (Same.new hq') _ _ hw4, upd_same, ?_, _, p2, (hs.filter fun u => !decide (u ∈ rts lines)) ++ t :: l, lines, lvs, oys ++ v :: us', _, _, _, _, _, rfl, ?_, p1, rfl⟩⟩
          · simp only [List.length_append, List.length_reverse, List.length_nil, List.length_cons] at hul ⊢
            omega
          · have e : us'.reverse ++ [v] ++ oys.reverse = (oys ++ v :: us').reverse := by simp
            rw [e]
            exact (gl4.same (Same.new hq')).setW (Trs.sm (Same.new hq') (Trs.app hos4 (.cons hvt4 hus4)))
end
end WW

set_option maxHeartbeats 4000000
namespace WW
open PySem PySem.Spec PyProof.Rows L2
local macro_rules | `(tactic| walk_at "x") => `(tactic| simp only [tSeq, tNext, tAsg, gName, tRet, tRetN, tIfS, tOp, tUn, rI, rI0, rU, tTest, tB, tAnd, tOr, tNot, tAndV, tOrV, tNotV, tIf, tCons, tNil, tTup, tLst, tCall, tCallS, tMeth, tMake, tFld, sFld, tBM, tBM0, tCB, tSl, tPart, tNoPart, tDrop, tPar, tPar3, tAug, ipI, gTup, gCons, gNil, gSub, rSetL, rAppend, rPop, rIxL, rIxS, rIxT, rEq, rNe, tChain, tNever, tThen, tVar, tC, L2.start, List.map_cons, List.map_nil, List.length_cons, List.length_nil, List.replicate_succ, List.replicate_zero, List.append_nil, List.nil_append, List.cons_append, Nat.reduceAdd, Nat.reduceSub, Nat.add_zero, Nat.zero_add, Nat.sub_zero, Nat.sub_self,
  List.getElem?_cons_zero, List.getElem?_cons_succ, Option.some.injEq, exists_eq_left', exists_eq_left, exists_eq', exists_eq, exists_and_left, List.set_cons_zero, List.set_cons_succ, V.int.injEq, V.bl.injEq, V.str.injEq, V.ref.injEq, V.ty.injEq, List.cons.injEq, and_true, true_and, and_assoc, if_true, if_false, Bool.false_eq_true, reduceCtorEq, false_and, and_false, exists_false, false_or, or_false, Bool.not_true, Bool.not_false, decide_eq_true_eq, ite_true, ite_false, WE, cxOf_K, cxOf_mg, rSlS, scal, wipe, mem_low, mem_dig, mem_brk, mem_brk4, sgn_inj, Bool.decide_eq_true])

/-- the arguments -/
structure Args (K : PySem.W.Frag) (H : Hp) (a : Addr) (xs : List V) (known : List Te) (x : V) (wanted : Te) : Prop where
  ha : SqT K H a xs
  hx : Trs K H xs known
  hw : Tr K H x wanted
  ok : ∀ t ∈ known, t.ok ∧ t.size ≤ 80
  wk : wanted.ok ∧ wanted.size ≤ 80
  ln : known.length ≤ 8
  sz : sizes (known ++ [wanted]) ≤ 400
theorem Args.same {K : PySem.W.Frag} {H H' : Hp} {a : Addr} {xs : List V} {known : List Te} {x : V} {wanted : Te} (s : Same H H') (g : Args K H a xs known x wanted) : Args K H' a xs known x wanted :=
  ⟨(Tx.of s).sqt g.ha, Trs.sm s g.hx, Tr.sm s g.hw, g.ok, g.wk, g.ln, g.sz⟩
theorem Args.oks {K : PySem.W.Frag} {H : Hp} {a : Addr} {xs : List V} {known : List Te} {x : V} {wanted : Te} (g : Args K H a xs known x wanted) : ∀ t ∈ known ++ [wanted], t.ok := fun t ht => by
  rcases List.mem_append.mp ht with h | h
  · exact (g.ok t h).1
  · rw [List.mem_singleton.mp h]; exact g.wk.1
/-- a derivation told -/
structure Told (K : PySem.W.Frag) (H : Hp) (p : Addr) (known : List Te) (wanted : Te) (lvs : List V) (lines : List Row) : Prop where
  hp : SqT K H p lvs
  dl : DpAll K H lvs (lines.map (lineD (rts lines)))
  val : Valid known lines
  nd : (rts lines).Nodup
  ok : ∀ t ∈ rts lines, t.ok
  ln : lines.length ≤ 400
  last : ∃ ls hw hs, lines = ls ++ [(wanted, hw, hs)]
theorem Told.same {K : PySem.W.Frag} {H H' : Hp} {p : Addr} {known : List Te} {wanted : Te} {lvs : List V} {lines : List Row} (s : Same H H') (g : Told K H p known wanted lvs lines) : Told K H' p known wanted lvs lines :=
  ⟨(Tx.of s).sqt g.hp, Dp.sms s _ _ g.dl, g.val, g.nd, g.ok, g.ln, g.last⟩
/-- a bar told -/
structure Bar (K : PySem.W.Frag) (H : Hp) (p : Addr) (known : List Te) (wanted : Te) (us : List V) (bs : List Te) : Prop where
  hp : SqT K H p us
  hu : Trs K H us bs
  nd : bs.Nodup
  od : ordE bs = bs
  mem : ∀ t, t ∈ bs ↔ ∃ n, rnd known (evE known wanted) n t
  cl : ∀ t, ¬ nxt (evE known wanted) (fun t => t ∈ bs) t
theorem Bar.same {K : PySem.W.Frag} {H H' : Hp} {p : Addr} {known : List Te} {wanted : Te} {us : List V} {bs : List Te} (s : Same H H') (g : Bar K H p known wanted us bs) : Bar K H' p known wanted us bs :=
  ⟨(Tx.of s).sqt g.hp, Trs.sm s g.hu, g.nd, g.od, g.mem, g.cl⟩
def InR (known : List Te) (wanted : Te) : Prop := ∃ n, rnd known (evE known wanted) n wanted
def spDerived (K : PySem.W.Frag) : Sp := fun vs H Q _ => ∃ a xs known x wanted, vs = [.ref a, x] ∧ Args K H a xs known x wanted ∧
  (∀ p lvs lines H', Same H H' → Told K H' p known wanted lvs lines → InR known wanted → Q (.ref p) H') ∧ ∀ H', Same H H' → ¬ InR known wanted → Q .non H'
def spBarred (K : PySem.W.Frag) : Sp := fun vs H Q _ => ∃ a xs known x wanted, vs = [.ref a, x] ∧ Args K H a xs known x wanted ∧ ¬ InR known wanted ∧
  ∀ p us bs H', Same H H' → Bar K H' p known wanted us bs → Q (.ref p) H'
def spReply (K : PySem.W.Frag) : Sp := fun vs H Q E => (∃ a xs known x wanted, vs = [.ref a, x] ∧ Args K H a xs known x wanted ∧
  (∀ q p lvs lines H', Same H H' → SqT K H' q [.str (Str.ofString "has"), .ref p] → Told K H' p known wanted lvs lines → InR known wanted → Q (.ref q) H') ∧
  (∀ q p us bs H', Same H H' → SqT K H' q [.str (Str.ofString "lacks"), .ref p] → Bar K H' p known wanted us bs → ¬ InR known wanted → Q (.ref q) H')) ∨
  ∃ x y, vs = [x, y] ∧ OddK K H x y ∧ ∀ H', Same H H' → E (mal K) none H'
def spRounds (K : PySem.W.Frag) : Sp := fun vs H Q E => (∃ a xs known x wanted, vs = [.ref a, x] ∧ Args K H a xs known x wanted ∧
  (∀ (n : Nat) H', Same H H' → rnd known (evE known wanted) n wanted → (∀ m, m < n → ¬ rnd known (evE known wanted) m wanted) → Q (.int ((n : Nat) : Int)) H') ∧
  (∀ H', Same H H' → ¬ InR known wanted → Q .non H')) ∨
  ∃ x y, vs = [x, y] ∧ OddK K H x y ∧ ∀ H', Same H H' → E (mal K) none H'
def rInv (K : PySem.W.Frag) (H : Hp) (a e k D : Addr) (x : V) (evs : List V) (known : List Te) (wanted : Te) (m : Nat) (σ : L2.St) (H6 : Hp) : Prop := ∃ rows n y, σ = [some (V.ref a), some x, some (V.ref e), some (V.ref k), some (.int ((n : Nat) : Int)), y] ∧ Same H H6 ∧ H6 e = some (.lst evs) ∧ Trs K H6 evs (evE known wanted) ∧ KAt K H6 k D rows ∧ Valid known rows ∧
  (∀ t, t ∈ rts rows ↔ rnd known (evE known wanted) n t) ∧ (∀ j, j < n → ¬ rnd known (evE known wanted) j wanted) ∧ m = 401 - rows.length
theorem Had.inr {known : List Te} {wanted : Te} {rows : List Row} (h : Had known (evE known wanted) rows) (t : Te) : t ∈ rts rows ↔ ∃ n, rnd known (evE known wanted) n t := by
  obtain ⟨_, n, h1, h2⟩ := h
  rw [h1]
  exact ⟨fun r => ⟨n, r⟩, fun ⟨m, r⟩ => rnd_end h2 m t r⟩
theorem Had.sub {K : PySem.W.Frag} {H : Hp} {a : Addr} {xs : List V} {x : V} {known : List Te} {wanted : Te} {rows : List Row} (h : Had known (evE known wanted) rows) (g : Args K H a xs known x wanted) (t : Te) (ht : t ∈ rts rows) : t ∈ evE known wanted := by
  obtain ⟨n, r⟩ := (h.inr t).mp ht
  exact rnd_in (fun t ht => subsT_self (List.mem_append_left _ ht)) subsT_closed n t r
section
variable {P : Program} {w : World} {K : PySem.W.Frag} {mg : Str → Option Value} {base : Heap}
theorem had_call {H : Hp} {a b : Addr} {xs : List V} {known : List Te} {x : V} {wanted : Te} {Q : VK} {E : XK} (g : Args K H a xs known x wanted) (hb : SqA K H b [x]) (hq : ∀ k D rows H', Same H H' → KAt K H' k D rows → Had known (evE known wanted) rows → Q (.ref k) H') : spHad K [.ref a, .ref b] H Q E := by
  have hl := g.ln
  have hs := g.sz
  exact ⟨a, xs, known, b, [x], [wanted], rfl, g.ha, g.hx, hb, .cons g.hw .nil, g.oks, by rw [List.length_append, List.length_singleton]; omega, by omega, fun k D rows H' s _ _ gk hh => hq k D rows H' s gk hh⟩
theorem o_derived (W : Wd fa fn K mg) : OkF P w K mg base d_derived 64 ["known", "wanted"] (spDerived K) := by
  have o_had_of := (o_had_of (P := P) (w := w) (base := base) W).mono (show 63 ≤ 63 by decide)
  have o_lines_to := (o_lines_to (P := P) (w := w) (base := base) W).mono (show 61 ≤ 63 by decide)
  have o_Kept_has := (o_Kept_has (P := P) (w := w) (base := base) W).mono (show 60 ≤ 63 by decide)
  obtain ⟨fd_had_of, F_had_of, b_had_of, k_had_of⟩ := o_had_of.ex; obtain ⟨fd_Kept_has, F_Kept_has, b_Kept_has, k_Kept_has⟩ := o_Kept_has.ex; obtain ⟨fd_lines_to, F_lines_to, b_lines_to, k_lines_to⟩ := o_lines_to.ex
  refine okf W (d := d_derived) 21 sc_derived rfl rfl (fun _ _ _ _ _ _ us hl => match us, hl with | [_, _], _ => rfl) ?len (fun cdv A outer s H vs Q E hr nd hu tk po h => ?body)
  case len =>
    rintro vs H Q E ⟨_, _, _, _, _, rfl, _⟩
    rfl
  case body =>
    refine ⟨_, (pss_cons (ps_set (i := 2) nd rfl (by first | exact Or.inl rfl | exact Or.inr rfl) (by exact (pe_callS F_had_of (hr.mono (by first | decide | omega)) rfl (W.glo 42) k_had_of b_had_of (fun σ => passAt tk σ) (by exact (pa_cons (pv 0) (pa_cons (pe_lst (pa_cons (pv 1) pa_nil)) pa_nil))))))
    (pss_one (ps_ret (pe_ifExp (pt_val (pe_meth (pv 2) (W.cls 27) (W.meth 28) F_Kept_has (hr.mono (by first | decide | omega)) b_Kept_has .nil (passes_call tk (fun _ _ _ _ h => h)) (pa_cons (pv 1) pa_nil))) (by exact (pe_callS F_lines_to (hr.mono (by first | decide | omega)) rfl (W.glo 41) k_lines_to b_lines_to (fun σ => passAt tk σ) (by exact (pa_cons (pv 2) (pa_cons (pv 1) pa_nil))))) pe_non)))), ?_⟩
    obtain ⟨a, xs, known, x, wanted, rfl, g, hq1, hq2⟩ := h
    clear tk po
    walk_at "x"
    refine ⟨by decide, fun b hb => ?_⟩
    have s1 := Same.new (o := HO.lst [x]) hb
    refine had_call (g.same s1) (.l upd_same) fun k D rows H2 s2' gk hh => ?_
    have s2 := Same.trans s1 s2'
    have g2 := g.same s2
    obtain ⟨dx, hk⟩ := gk.ins
    refine ⟨k, rfl, _, _, hk, rfl, k, D, rows, x, wanted, rfl, gk, g2.hw, g.wk.1, fun H3 s3' => ⟨_, rfl, ?_⟩⟩
    have s3 := Same.trans s2 s3'
    have hin : wanted ∈ rts rows ↔ InR known wanted := hh.inr wanted
    by_cases hm : wanted ∈ rts rows
    · rw [decide_eq_true hm]
      refine iteT ⟨k, D, rows, known, x, wanted, rfl, gk.same s3', hh.1, (g.same s3).hw, hm, fun p lvs lines H4 s4 hp hl hv hnd hsub hlast => ?_⟩
      refine hq1 p lvs lines H4 (Same.trans s3 s4) ⟨SqT.of hp, hl, hv, hnd, fun t ht => ?_, ?_, hlast⟩ (hin.mp hm)
      · obtain ⟨hw, hs, hr⟩ := row_of ht
        exact gk.ok t (rts_mem (hsub _ hr))
      · have h1 := sub_len hnd hsub
        have h2 := nodup_len gk.nd fun t ht => hh.sub g t ht
        have h3 := subsT_len (known ++ [wanted])
        have h4 := g.sz
        rw [rts_len] at h2
        have e : (evE known wanted).length = (subsT (known ++ [wanted])).length := rfl
        omega
    · rw [decide_eq_false hm]
      exact iteF (hq2 H3 s3 fun h => hm (hin.mpr h))
theorem o_barred (W : Wd fa fn K mg) : OkF P w K mg base d_barred 64 ["known", "wanted"] (spBarred K) := by
  have o_had_of := (o_had_of (P := P) (w := w) (base := base) W).mono (show 63 ≤ 63 by decide)
  have o_in_order := (o_in_order (P := P) (w := w) (base := base) W).mono (show 60 ≤ 63 by decide)
  have o_Kept_has := (o_Kept_has (P := P) (w := w) (base := base) W).mono (show 60 ≤ 63 by decide)
  have o_Kept_terms := (o_Kept_terms (P := P) (w := w) (base := base) W).mono (show 60 ≤ 63 by decide)
  obtain ⟨fd_had_of, F_had_of, b_had_of, k_had_of⟩ := o_had_of.ex; obtain ⟨fd_Kept_has, F_Kept_has, b_Kept_has, k_Kept_has⟩ := o_Kept_has.ex; obtain ⟨fd_in_order, F_in_order, b_in_order, k_in_order⟩ := o_in_order.ex; obtain ⟨fd_Kept_terms, F_Kept_terms, b_Kept_terms, k_Kept_terms⟩ := o_Kept_terms.ex
  refine okf W (d := d_barred) 22 sc_barred rfl rfl (fun _ _ _ _ _ _ us hl => match us, hl with | [_, _], _ => rfl) ?len (fun cdv A outer s H vs Q E hr nd hu tk po h => ?body)
  case len =>
    rintro vs H Q E ⟨_, _, _, _, _, rfl, _⟩
    rfl
  case body =>
    refine ⟨_, (pss_cons (ps_set (i := 2) nd rfl (by first | exact Or.inl rfl | exact Or.inr rfl) (by exact (pe_callS F_had_of (hr.mono (by first | decide | omega)) rfl (W.glo 42) k_had_of b_had_of (fun σ => passAt tk σ) (by exact (pa_cons (pv 0) (pa_cons (pe_lst (pa_cons (pv 1) pa_nil)) pa_nil))))))
    (pss_one (ps_ret (pe_ifExp (pt_not (pt_val (pe_meth (pv 2) (W.cls 27) (W.meth 28) F_Kept_has (hr.mono (by first | decide | omega)) b_Kept_has .nil (passes_call tk (fun _ _ _ _ h => h)) (pa_cons (pv 1) pa_nil)))) (by exact (pe_callS F_in_order (hr.mono (by first | decide | omega)) rfl (W.glo 43) k_in_order b_in_order (fun σ => passAt tk σ) (by exact (pa_cons (pe_meth0 (pv 2) (W.cls 27) (W.meth 33) F_Kept_terms (hr.mono (by first | decide | omega)) b_Kept_terms .nil (passes_call tk (fun _ _ _ _ h => h))) pa_nil)))) pe_non)))), ?_⟩
    obtain ⟨a, xs, known, x, wanted, rfl, g, hn, hq⟩ := h
    clear tk po
    walk_at "x"
    refine ⟨by decide, fun b hb => ?_⟩
    have s1 := Same.new (o := HO.lst [x]) hb
    refine had_call (g.same s1) (.l upd_same) fun k D rows H2 s2' gk hh => ?_
    have s2 := Same.trans s1 s2'
    have g2 := g.same s2
    obtain ⟨dx, hk⟩ := gk.ins
    refine ⟨k, rfl, _, _, hk, rfl, k, D, rows, x, wanted, rfl, gk, g2.hw, g.wk.1, fun H3 s3' => ⟨_, rfl, ?_⟩⟩
    have s3 := Same.trans s2 s3'
    have hin : wanted ∈ rts rows ↔ InR known wanted := hh.inr wanted
    have hm : wanted ∉ rts rows := fun h => hn (hin.mp h)
    rw [decide_eq_false hm]
    have gk3 := gk.same s3'
    refine iteT ⟨k, rfl, _, _, s3' _ _ hk, rfl, k, D, rows, rfl, gk3, fun q us H4 s4' hq1 hq2 hus => ?_⟩
    have s4 := Same.trans s3 s4'
    refine ⟨q, us, rts rows, rfl, .inl (SqL.of hq2), hus, gk.nd, gk.ok, ?_, fun p us2 H5 s5 hp hp5 hus2 => ?_⟩
    · have := gk.ln
      rw [rts_len]
      exact this
    · have hcl : ∀ t, ¬ nxt (evE known wanted) (fun t => t ∈ ordE (rts rows)) t := fun t ht => by
        obtain ⟨_, n, h1, h2⟩ := hh
        exact h2 t ((nxt_cong (fun _ => Iff.rfl) (fun u => by rw [(ordE_perm (rts rows)).mem_iff]; exact h1 u) t).mp ht)
      exact hq p us2 _ H5 (Same.trans s4 s5) ⟨SqT.of hp5, hus2, ordE_nodup gk.nd, ordE_ord _, (fun t => by rw [(ordE_perm (rts rows)).mem_iff]; exact hh.inr t), hcl⟩
theorem o_reply (W : Wd fa fn K mg) : OkF P w K mg base d_reply 65 ["known", "wanted"] (spReply K) := by
  have o_check_known := (o_check_known (P := P) (w := w) (base := base) W).mono (show 60 ≤ 64 by decide)
  have o_derived := (o_derived (P := P) (w := w) (base := base) W).mono (show 64 ≤ 64 by decide)
  have o_barred := (o_barred (P := P) (w := w) (base := base) W).mono (show 64 ≤ 64 by decide)
  obtain ⟨fd_check_known, F_check_known, b_check_known, k_check_known⟩ := o_check_known.ex; obtain ⟨fd_derived, F_derived, b_derived, k_derived⟩ := o_derived.ex; obtain ⟨fd_barred, F_barred, b_barred, k_barred⟩ := o_barred.ex
  refine okf W (d := d_reply) 23 sc_reply rfl rfl (fun _ _ _ _ _ _ us hl => match us, hl with | [_, _], _ => rfl) ?len (fun cdv A outer s H vs Q E hr nd hu tk po h => ?body)
  case len =>
    rintro vs H Q E (⟨_, _, _, _, _, rfl, _⟩ | ⟨_, _, rfl, _⟩) <;> rfl
  case body =>
    refine ⟨_, (pss_cons (ps_expr (by exact (pe_callS F_check_known (hr.mono (by first | decide | omega)) rfl (W.glo 45) k_check_known b_check_known (fun σ => passAt tk σ) (by exact (pa_cons (pv 0) (pa_cons (pv 1) pa_nil))))))
    (pss_cons (ps_set (i := 2) nd rfl (by first | exact Or.inl rfl | exact Or.inr rfl) (by exact (pe_callS F_derived (hr.mono (by first | decide | omega)) rfl (W.glo 46) k_derived b_derived (fun σ => passAt tk σ) (by exact (pa_cons (pv 0) (pa_cons (pv 1) pa_nil))))))
    (pss_one (ps_ret (pe_ifExp (pt_cmpR op_notN (pv 2) pe_non (nomark _)) (pe_tup (pa_cons pe_str (pa_cons (pv 2) pa_nil))) (pe_tup (pa_cons pe_str (pa_cons (by exact (pe_callS F_barred (hr.mono (by first | decide | omega)) rfl (W.glo 44) k_barred b_barred (fun σ => passAt tk σ) (by exact (pa_cons (pv 0) (pa_cons (pv 1) pa_nil))))) pa_nil)))))))), ?_⟩
    rcases h with ⟨a, xs, known, x, wanted, rfl, g, hq1, hq2⟩ | ⟨x, y, rfl, hodd, hq⟩
    · clear tk po
      walk_at "x"
      have hkl := g.ln
      refine .inl ⟨a, xs, known, x, wanted, rfl, g.ha, g.hx, g.hw, g.ok, g.wk.1, g.wk.2, by omega, fun H1 s1 => ?_⟩
      refine ⟨a, xs, known, x, wanted, rfl, g.same s1, fun p lvs lines H2 s2' ht hr => ?_, fun H2 s2' hn => ?_⟩
      · dsimp only
        rw [decide_eq_false (show ¬ V.ref p = V.non from fun e => by cases e)]
        refine iteT ⟨by decide, fun q hq' => ?_⟩
        have s3 := Same.new (o := HO.tup [V.str (Str.ofString "has"), V.ref p]) hq'
        exact hq1 q p lvs lines _ (Same.trans s1 (Same.trans s2' s3)) (SqT.of upd_same) (ht.same s3) hr
      · dsimp only
        rw [decide_eq_true rfl]
        have s2 := Same.trans s1 s2'
        refine iteF ⟨a, xs, known, x, wanted, rfl, g.same s2, hn, fun p us bs H3 s3' hb => ⟨by decide, fun q hq' => ?_⟩⟩
        have s4 := Same.new (o := HO.tup [V.str (Str.ofString "lacks"), V.ref p]) hq'
        exact hq2 q p us bs _ (Same.trans s2 (Same.trans s3' s4)) (SqT.of upd_same) (hb.same s4) hn
    · clear tk po
      walk_at "x"
      exact .inr ⟨x, y, rfl, hodd, hq⟩
end
end WW

set_option maxHeartbeats 4000000
namespace WW
open PySem PySem.Spec PyProof.Rows L2
/-! ### set(xs) of a tuple of ints -/
section
variable {X : Cx}
def rSetTI (K : PySem.W.Frag) (w : World) : List V → Hp → VK → Prop := fun xs H Q => ∃ (l : Addr) (ns : List Int), xs = [V.ref l] ∧ SqT K H l (ns.map V.int) ∧ ns.length < 64 ∧
  ∀ a c, H a = none → c ≤ ns.length → Q (.ref a) (upd H a (SetO w a (fun j => decide (j ∈ ns)) c))
theorem cr_setTI (hc : X.calm = true) : CallR X (.type "set") (rSetTI X.K X.w) := by
  intro pins s σ H xs us Q I r h
  obtain ⟨l, ns, rfl, hl, hf, q⟩ := h
  rw [Vals.ref1 r]
  obtain ⟨its, rv, pl, hz⟩ := I.tuple hl
  have hn : H s.heap.objs.size = none := I.hok.fresh (Nat.le_refl _)
  have hb : ns.length + 1 < scanBound := by have : 65 < scanBound := by decide
                                            omega
  refine call_set_tupI (P := X.prog) (w := X.w) ns (I.ok.hd hc) pl (by simpa using ints_of_vals rv) hb fun h' tk c R hcl k => ?_
  exact ⟨.ref s.heap.objs.size, upd H s.heap.objs.size (SetO X.w s.heap.objs.size (fun j => decide (j ∈ ns)) c), I.laid (t' := tk) k (Nat.le_refl _) (setO_new R), rfl, q _ c hn hcl⟩
end
/-! ### the order -/
theorem nodup_perm : ∀ {a b : List Te}, a.Nodup → b.Nodup → (∀ t, t ∈ a ↔ t ∈ b) → a.Perm b := fun ha hb h => (List.perm_ext_iff_of_nodup ha hb).mpr h
theorem ordE_set {a b : List Te} (ha : a.Nodup) (hb : b.Nodup) (h : ∀ t, t ∈ a ↔ t ∈ b) : ordE a = ordE b := ordE_eq (nodup_perm ha hb h)
/-! ### the whole of it -/
def Cl (known ev : List Te) (t : Te) : Prop := ∃ n, rnd known ev n t
theorem takes_mono {S T : Te → Prop} (h : ∀ t, S t → T t) {u t : Te} (g : takes S u t) : takes T u t := by
  cases u <;> simp only [takes] at g ⊢ <;> first | exact g | exact ⟨g.1, h _ g.2⟩
theorem makes_mono {S T : Te → Prop} (h : ∀ t, S t → T t) {t : Te} (g : makes S t) : makes T t := by
  rcases g with g | ⟨g1, g2⟩
  · exact .inl g
  · exact .inr ⟨g1, fun p hp => h p (g2 p hp)⟩
theorem rnd_sub {k1 k2 e1 e2 : List Te} (hk : ∀ t ∈ k1, t ∈ k2) (he : ∀ t ∈ e1, t ∈ e2) : ∀ n t, rnd k1 e1 n t → rnd k2 e2 n t := by
  intro n
  induction n with
  | zero => exact hk
  | succ n ih =>
    intro t r
    by_cases q : rnd k2 e2 n t
    · exact .inl q
    · refine .inr ⟨q, ?_⟩
      rcases r with r | ⟨_, ⟨u, hu, ht⟩ | ⟨h, hm⟩⟩
      · exact absurd (ih t r) q
      · exact .inl ⟨u, ih u hu, takes_mono ih ht⟩
      · exact .inr ⟨he t h, makes_mono ih hm⟩
theorem Cl.sub {k1 k2 e1 e2 : List Te} (hk : ∀ t ∈ k1, t ∈ k2) (he : ∀ t ∈ e1, t ∈ e2) {t : Te} (h : Cl k1 e1 t) : Cl k2 e2 t := by
  obtain ⟨n, r⟩ := h
  exact ⟨n, rnd_sub hk he n t r⟩
theorem subsT_sub {a b : List Te} (h : ∀ t ∈ a, t ∈ b) : ∀ t ∈ subsT a, t ∈ subsT b := fun t ht => by
  obtain ⟨u, hu, hs⟩ := (subsT_mem a t).mp ht
  exact (subsT_mem b t).mpr ⟨u, h u hu, hs⟩
theorem InR.sub {k1 k2 : List Te} {w : Te} (h : ∀ t ∈ k1, t ∈ k2) (g : InR k1 w) : InR k2 w := Cl.sub (k1 := k1) h (subsT_sub fun t ht => by
  rcases List.mem_append.mp ht with q | q
  · exact List.mem_append_left _ (h t q)
  · exact List.mem_append_right _ q) g
/-- a bar: what is had stays within -/
theorem rnd_bar {known ev : List Te} {C : Te → Prop} (hk : ∀ t ∈ known, C t) (ht : ∀ u t, C u → takes C u t → C t) (hm : ∀ t, makes C t → C t) : ∀ n t, rnd known ev n t → C t := by
  intro n
  induction n with
  | zero => exact hk
  | succ n ih =>
    intro t r
    rcases r with r | ⟨_, ⟨u, hu, h⟩ | ⟨_, h⟩⟩
    · exact ih t r
    · exact ht u t (ih u hu) (takes_mono ih h)
    · exact hm t (makes_mono ih h)
theorem Cl.known {known ev : List Te} {t : Te} (h : t ∈ known) : Cl known ev t := ⟨0, h⟩
theorem rnd_take {known ev : List Te} {n : Nat} {u t : Te} (hu : rnd known ev n u) (ht : takes (rnd known ev n) u t) : rnd known ev (n + 1) t := by
  by_cases q : rnd known ev n t
  · exact .inl q
  · exact .inr ⟨q, .inl ⟨u, hu, ht⟩⟩
theorem Cl.take {known ev : List Te} {u t : Te} (hu : Cl known ev u) (ht : takes (Cl known ev) u t) : Cl known ev t := by
  obtain ⟨n, hn⟩ := hu
  cases u <;> simp only [takes] at ht
  · exact ⟨n + 1, rnd_take hn (by simpa only [takes] using ht)⟩
  · obtain ⟨rfl, m, hm⟩ := ht
    exact ⟨max n m + 1, rnd_take (rnd_mono (Nat.le_max_left ..) hn) ⟨rfl, rnd_mono (Nat.le_max_right ..) hm⟩⟩
  · exact ⟨n + 1, rnd_take hn (by simpa only [takes] using ht)⟩
  · obtain ⟨rfl, m, hm⟩ := ht
    exact ⟨max n m + 1, rnd_take (rnd_mono (Nat.le_max_left ..) hn) ⟨rfl, rnd_mono (Nat.le_max_right ..) hm⟩⟩
/-! ### some places of what is known -/
def sel (known : List Te) (ps : List Nat) : List Te := ps.map fun k => known.getD k .s
theorem sel_mem {known : List Te} {ps : List Nat} {t : Te} : t ∈ sel known ps ↔ ∃ k ∈ ps, known.getD k .s = t := by
  unfold sel
  rw [List.mem_map]
theorem sel_sub {known : List Te} {ps qs : List Nat} (h : ∀ k ∈ ps, k ∈ qs) : ∀ t ∈ sel known ps, t ∈ sel known qs := fun t ht => by
  obtain ⟨k, h1, h2⟩ := sel_mem.mp ht
  exact sel_mem.mpr ⟨k, h k h1, h2⟩
theorem getD_at {known : List Te} {k : Nat} (h : k < known.length) : known[k]? = some (known.getD k .s) := by
  rw [List.getD_eq_getElem?_getD, List.getElem?_eq_getElem h]
  rfl
theorem sel_in {known : List Te} {ps : List Nat} (hb : ∀ k ∈ ps, k < known.length) : ∀ t ∈ sel known ps, t ∈ known := fun t ht => by
  obtain ⟨k, h1, h2⟩ := sel_mem.mp ht
  have := getD_at (hb k h1)
  rw [h2] at this
  exact List.mem_of_getElem? this
theorem sel_all {known : List Te} : sel known (List.range known.length) = known := by
  unfold sel
  apply List.ext_getElem?
  intro i
  rw [List.getElem?_map]
  by_cases hi : i < known.length
  · rw [List.getElem?_range hi, getD_at hi]
    rfl
  · rw [List.getElem?_eq_none (by simp; omega), List.getElem?_eq_none (by omega)]
    rfl
theorem sel_len {known : List Te} {ps : List Nat} : (sel known ps).length = ps.length := by unfold sel; rw [List.length_map]
theorem sel_at {known : List Te} {ps : List Nat} {i k : Nat} (h : ps[i]? = some k) : (sel known ps)[i]? = some (known.getD k .s) := by
  unfold sel
  rw [List.getElem?_map, h]
  rfl
/-- places in their order, none left out without loss -/
structure Need (known : List Te) (wanted : Te) (ps : List Nat) : Prop where
  lt : ps.Pairwise (· < ·)
  bd : ∀ k ∈ ps, k < known.length
  has : InR (sel known ps) wanted
  min : ∀ k ∈ ps, ¬ InR (sel known (ps.filter fun q => decide (q ≠ k))) wanted
theorem sorted_len0 : ∀ {ps : List Nat} {lo n : Nat}, ps.Pairwise (· < ·) → (∀ k ∈ ps, lo ≤ k ∧ k < n) → ps.length ≤ n - lo
  | [], _, _, _, _ => Nat.zero_le _
  | a :: ps, lo, n, h, g => by
    have h2 := List.pairwise_cons.mp h
    have ga := g a (List.mem_cons_self ..)
    have := sorted_len0 (lo := a + 1) (n := n) h2.2 fun k hk => ⟨h2.1 k hk, (g k (List.mem_cons_of_mem _ hk)).2⟩
    rw [List.length_cons]
    omega
theorem sorted_len {ps : List Nat} {n : Nat} (h : ps.Pairwise (· < ·)) (g : ∀ k ∈ ps, k < n) : ps.length ≤ n := by
  have := sorted_len0 (lo := 0) h fun k hk => ⟨Nat.zero_le _, g k hk⟩
  omega
theorem sizes_app (a b : List Te) : sizes (a ++ b) = sizes a + sizes b := by
  unfold sizes
  rw [List.map_append, List.sum_append]
theorem sizes_mul {z : Nat} : ∀ {ts : List Te}, (∀ t ∈ ts, t.size ≤ z) → sizes ts ≤ z * ts.length
  | [], _ => Nat.le_refl _
  | t :: ts, h => by
    have h1 := sizes_mul fun u hu => h u (List.mem_cons_of_mem _ hu)
    have h2 := h t (List.mem_cons_self ..)
    show t.size + sizes ts ≤ z * (ts.length + 1)
    rw [Nat.mul_add]
    omega
end WW

set_option maxHeartbeats 4000000
namespace WW
open PySem PySem.Spec PyProof.Rows L2
local macro_rules | `(tactic| walk_at "x") => `(tactic| simp only [tSeq, tNext, tAsg, gName, tRet, tRetN, tIfS, tOp, tUn, rI, rI0, rU, tTest, tB, tAnd, tOr, tNot, tAndV, tOrV, tNotV, tIf, tCons, tNil, tTup, tLst, tCall, tCallS, tMeth, tMake, tFld, sFld, tBM, tBM0, tCB, tSl, tPart, tNoPart, tDrop, tPar, tPar3, tAug, ipI, gTup, gCons, gNil, gSub, rSetL, rAppend, rPop, rIxL, rIxS, rIxT, rEq, rNe, tChain, tNever, tThen, tVar, tC, L2.start, List.map_cons, List.map_nil, List.length_cons, List.length_nil, List.replicate_succ, List.replicate_zero, List.append_nil, List.nil_append, List.cons_append, Nat.reduceAdd, Nat.reduceSub, Nat.add_zero, Nat.zero_add, Nat.sub_zero, Nat.sub_self,
  List.getElem?_cons_zero, List.getElem?_cons_succ, Option.some.injEq, exists_eq_left', exists_eq_left, exists_eq', exists_eq, exists_and_left, List.set_cons_zero, List.set_cons_succ, V.int.injEq, V.bl.injEq, V.str.injEq, V.ref.injEq, V.ty.injEq, List.cons.injEq, and_true, true_and, and_assoc, if_true, if_false, Bool.false_eq_true, reduceCtorEq, false_and, and_false, exists_false, false_or, or_false, Bool.not_true, Bool.not_false, decide_eq_true_eq, ite_true, ite_false, WE, cxOf_K, cxOf_mg, rSlS, scal, wipe, mem_low, mem_dig, mem_brk, mem_brk4, sgn_inj, Bool.decide_eq_true])

def spHadF (K : PySem.W.Frag) : Sp := fun vs H Q E => (∃ a xs known, vs = [.ref a] ∧ SqT K H a xs ∧ Trs K H xs known ∧ (∀ t ∈ known, t.ok ∧ t.size ≤ 80) ∧ known.length ≤ 8 ∧ sizes known ≤ 400 ∧
  ∀ p us ts H', Same H H' → SqT K H' p us → Trs K H' us (ordE ts) → ts.Nodup → (∀ t ∈ ts, t.ok) → (∀ t, t ∈ ts ↔ Cl known (subsT known) t) → Q (.ref p) H') ∨
  ∃ x, vs = [x] ∧ OddT K H x ∧ ∀ H', Same H H' → E (mal K) none H'
def spGained (K : PySem.W.Frag) : Sp := fun vs H Q E => (∃ a xs known x letter, vs = [.ref a, x] ∧ Args K H a xs known x letter ∧ 
  ∀ p us ts H', Same H H' → SqT K H' p us → Trs K H' us (ordE ts) → ts.Nodup → (∀ t ∈ ts, t.ok) → (∀ t, t ∈ ts ↔ Cl (known ++ [letter]) (evE known letter) t ∧ ¬ Cl known (evE known letter) t) → Q (.ref p) H') ∨
  ∃ x y, vs = [x, y] ∧ OddK K H x y ∧ ∀ H', Same H H' → E (mal K) none H'
def spNeeded (K : PySem.W.Frag) : Sp := fun vs H Q E => (∃ a xs known x wanted, vs = [.ref a, x] ∧ Args K H a xs known x wanted ∧ (∀ t ∈ known, t.size ≤ 40) ∧ wanted.size ≤ 40 ∧
  (∀ p (ps : List Nat) H', Same H H' → SqT K H' p (ps.map fun (k : Nat) => V.int (k : Int)) → Need known wanted ps → Q (.ref p) H') ∧ ∀ H', Same H H' → ¬ InR known wanted → Q .non H') ∨
  ∃ x y, vs = [x, y] ∧ OddK K H x y ∧ ∀ H', Same H H' → E (mal K) none H'
theorem Had.cl {known ev : List Te} {rows : List Row} (h : Had known ev rows) (t : Te) : t ∈ rts rows ↔ Cl known ev t := by
  obtain ⟨_, n, h1, h2⟩ := h
  rw [h1]
  exact ⟨fun r => ⟨n, r⟩, fun ⟨m, r⟩ => rnd_end h2 m t r⟩
/-- [x for x in xs if p(x)] of things that are told without the heap -/
theorem tLc_filtV {J : It} {G : Hp → Prop} {xs : List V} {wi : TI} {tt : TT} {vs : List Nat} {σ : L2.St} {H H1 : Hp} {Q : VK} {j : Nat} (wk : Walk J xs.length G (YAt xs)) (hn : xs.length ≤ 1000000)
    (hwi : ∀ R : It → Hp → Prop, R J H1 → wi σ H R) (hG : ∀ H', Same H1 H' → G H') (hw : ∀ x, wipe ((wipe σ vs).set j (some x)) vs = wipe σ vs) (hj : ∀ x, ((wipe σ vs).set j (some x))[j]? = some (some x))
    (p : V → Bool)
    (he : ∀ x H2 (R : Bool → Hp → Prop), x ∈ xs → Same H1 H2 → (∀ H3, Same H2 H3 → R (p x) H3) → tt ((wipe σ vs).set j (some x)) H2 R)
    (hq : ∀ D H2, Same H1 H2 → H1 D = none → H2 D = some (.lst (xs.filter p)) → Q (.ref D) H2) : tLc wi (gName j) tt (tVar j) vs σ H Q := by
  have szl := sizeLine_eq
  refine tLc_of wk hwi (fun D i H2 => Same H1 H2 ∧ H1 D = none ∧ H2 D = some (.lst ((xs.take i).filter p))) (fun D hD => ⟨Same.new hD, hD, upd_same⟩) (fun D i H2 _ h => hG H2 h.1) ?_ ?_
  · rintro D i x H2 H3 hi ⟨s2, hD, h2⟩ ⟨rfl, hxi⟩
    refine ⟨hw _, ?_⟩
    refine he x H3 _ (List.mem_of_getElem? hxi) s2 fun H4 s4 => ?_
    have ef : (xs.take (i + 1)).filter p = (xs.take i).filter p ++ if p x then [x] else [] := by
      rw [List.take_add_one, hxi, List.filter_append]
      congr 1
      simp only [Option.toList, List.filter_cons, List.filter_nil]
    have hl : ((xs.take i).filter p).length ≤ i := Nat.le_trans (List.length_filter_le ..) (by rw [List.length_take]; omega)
    rw [ef]
    cases hpt : p x with
    | true =>
      rw [if_pos rfl]
      exact ⟨x, hj x, _, s4 _ _ h2, by omega, Same.mut (Same.trans s2 s4) hD, hD, upd_same⟩
    | false =>
      rw [if_neg (by decide)]
      exact ⟨Same.trans s2 s4, hD, by simpa using s4 _ _ h2⟩
  · rintro D H2 ⟨s2, hD, h2⟩
    rw [List.take_length] at h2
    exact hq D H2 s2 hD h2
/-- places as values -/
def iv (ps : List Nat) : List V := ps.map fun (k : Nat) => V.int (k : Int)
theorem iv_len (ps : List Nat) : (iv ps).length = ps.length := by unfold iv; rw [List.length_map]
theorem iv_filter (ps : List Nat) (k : Nat) : (iv ps).filter (fun v => !decide (v = V.int (k : Int))) = iv (ps.filter fun q => decide (q ≠ k)) := by
  unfold iv
  rw [List.filter_map]
  congr 1
  apply List.filter_congr
  intro q _
  simp only [Function.comp, V.int.injEq, Int.natCast_inj]
  by_cases h : q = k <;> simp [h]
theorem rg_iv (n : Nat) : rgV 0 ((n : Nat) : Int) = iv (List.range n) := by
  unfold rgV iv
  have e : (((n : Nat) : Int) - 0).toNat = n := by omega
  rw [e]
  apply List.map_congr_left
  intro i _
  rw [Int.zero_add]
def ndInv (K : PySem.W.Frag) (H : Hp) (a : Addr) (x : V) (known : List Te) (wanted : Te) (i : Nat) (σ : L2.St) (H1 : Hp) : Prop := ∃ kp ps y3 y4 y5, σ = [some (.ref a), some x, some (.ref kp), y3, y4, y5] ∧ Same H H1 ∧ H1 kp = some (.lst (iv ps)) ∧
  ps.Pairwise (· < ·) ∧ (∀ k ∈ ps, k < known.length) ∧ InR (sel known ps) wanted ∧ ∀ k ∈ ps, known.length - i ≤ k → ¬ InR (sel known (ps.filter fun q => decide (q ≠ k))) wanted
theorem filter_sub {ps : List Nat} {k j : Nat} : ∀ q ∈ (ps.filter fun q => decide (q ≠ k)).filter (fun q => decide (q ≠ j)), q ∈ ps.filter fun q => decide (q ≠ j) := fun q hq => by
  obtain ⟨h1, h2⟩ := List.mem_filter.mp hq
  exact List.mem_filter.mpr ⟨(List.mem_filter.mp h1).1, h2⟩
section
variable {P : Program} {w : World} {K : PySem.W.Frag} {mg : Str → Option Value} {base : Heap}
theorem o_had (W : Wd fa fn K mg) : OkF P w K mg base d_had 65 ["known"] (spHadF K) := by
  have o_check_terms := (o_check_terms (P := P) (w := w) (base := base) W).mono (show 60 ≤ 64 by decide)
  have o_had_of := (o_had_of (P := P) (w := w) (base := base) W).mono (show 63 ≤ 64 by decide)
  have o_in_order := (o_in_order (P := P) (w := w) (base := base) W).mono (show 60 ≤ 64 by decide)
  have o_Kept_terms := (o_Kept_terms (P := P) (w := w) (base := base) W).mono (show 60 ≤ 64 by decide)
  obtain ⟨fd_check_terms, F_check_terms, b_check_terms, k_check_terms⟩ := o_check_terms.ex; obtain ⟨fd_in_order, F_in_order, b_in_order, k_in_order⟩ := o_in_order.ex; obtain ⟨fd_had_of, F_had_of, b_had_of, k_had_of⟩ := o_had_of.ex; obtain ⟨fd_Kept_terms, F_Kept_terms, b_Kept_terms, k_Kept_terms⟩ := o_Kept_terms.ex
  refine okf W (d := d_had) 25 sc_had rfl rfl (fun _ _ _ _ _ _ us hl => match us, hl with | [_], _ => rfl) ?len (fun cdv A outer s H vs Q E hr nd hu tk po h => ?body)
  case len =>
    rintro vs H Q E (⟨_, _, _, rfl, _⟩ | ⟨_, rfl, _⟩) <;> rfl
  case body =>
    refine ⟨_, (pss_cons (ps_expr (by exact (pe_callS F_check_terms (hr.mono (by first | decide | omega)) rfl (W.glo 47) k_check_terms b_check_terms (fun σ => passAt tk σ) (by exact (pa_cons (pv 0) pa_nil)))))
    (pss_one (ps_ret (by exact (pe_callS F_in_order (hr.mono (by first | decide | omega)) rfl (W.glo 43) k_in_order b_in_order (fun σ => passAt tk σ) (by exact (pa_cons (pe_meth0 (by exact (pe_callS F_had_of (hr.mono (by first | decide | omega)) rfl (W.glo 42) k_had_of b_had_of (fun σ => passAt tk σ) (by exact (pa_cons (pv 0) (pa_cons (pe_lst pa_nil) pa_nil))))) (W.cls 27) (W.meth 33) F_Kept_terms (hr.mono (by first | decide | omega)) b_Kept_terms .nil (passes_call tk (fun _ _ _ _ h => h))) pa_nil))))))), ?_⟩
    rcases h with ⟨a, xs, known, rfl, ha, hx, hok, hln, hsz, hq⟩ | ⟨x, rfl, hodd, hq⟩
    · clear tk po
      walk_at "x"
      refine .inl ⟨a, xs, known, rfl, ha, hx, hok, by omega, fun H1 s1 => ?_⟩
      refine ⟨by decide, fun b hb => ?_⟩
      have s2 := Same.trans s1 (Same.new (o := HO.lst []) hb)
      have en : known ++ [] = known := List.append_nil known
      refine ⟨a, xs, known, b, [], [], rfl, (Tx.of s2).sqt ha, Trs.sm s2 hx, .l upd_same, .nil, (fun t ht => (hok t (by rwa [en] at ht)).1), by rw [en]; omega, by rw [en]; omega, fun k D rows H3 s3' hk hD gk hh => ?_⟩
      rw [en] at hh
      have s3 := Same.trans s2 s3'
      obtain ⟨dx, hki⟩ := gk.ins
      refine ⟨k, rfl, _, _, hki, rfl, k, D, rows, rfl, gk, fun q us H4 s4' hq1 hq2 hus => ?_⟩
      have s4 := Same.trans s3 s4'
      refine ⟨q, us, rts rows, rfl, .inl (SqL.of hq2), hus, gk.nd, gk.ok, by have := gk.ln; rw [rts_len]; exact this, fun p us2 H5 s5 hp hp5 hus2 => ?_⟩
      exact hq p us2 (rts rows) H5 (Same.trans s4 s5) (SqT.of hp5) hus2 gk.nd gk.ok hh.cl
    · clear tk po
      walk_at "x"
      exact .inr ⟨x, rfl, hodd, hq⟩
theorem o_gained (W : Wd fa fn K mg) : OkF P w K mg base d_gained 65 ["known", "letter"] (spGained K) := by
  have o_check_known := (o_check_known (P := P) (w := w) (base := base) W).mono (show 60 ≤ 64 by decide)
  have o_had_of := (o_had_of (P := P) (w := w) (base := base) W).mono (show 63 ≤ 64 by decide)
  have o_in_order := (o_in_order (P := P) (w := w) (base := base) W).mono (show 60 ≤ 64 by decide)
  have o_Kept_terms := (o_Kept_terms (P := P) (w := w) (base := base) W).mono (show 60 ≤ 64 by decide)
  have o_Kept_has := (o_Kept_has (P := P) (w := w) (base := base) W).mono (show 60 ≤ 64 by decide)
  obtain ⟨fd_check_known, F_check_known, b_check_known, k_check_known⟩ := o_check_known.ex; obtain ⟨fd_had_of, F_had_of, b_had_of, k_had_of⟩ := o_had_of.ex; obtain ⟨fd_in_order, F_in_order, b_in_order, k_in_order⟩ := o_in_order.ex; obtain ⟨fd_Kept_terms, F_Kept_terms, b_Kept_terms, k_Kept_terms⟩ := o_Kept_terms.ex; obtain ⟨fd_Kept_has, F_Kept_has, b_Kept_has, k_Kept_has⟩ := o_Kept_has.ex
  refine okf W (d := d_gained) 26 sc_gained rfl rfl (fun _ _ _ _ _ _ us hl => match us, hl with | [_, _], _ => rfl) ?len (fun cdv A outer s H vs Q E hr nd hu tk po h => ?body)
  case len =>
    rintro vs H Q E (⟨_, _, _, _, _, rfl, _⟩ | ⟨_, _, rfl, _⟩) <;> rfl
  case body =>
    refine ⟨_, (pss_cons (ps_expr (by exact (pe_callS F_check_known (hr.mono (by first | decide | omega)) rfl (W.glo 45) k_check_known b_check_known (fun σ => passAt tk σ) (by exact (pa_cons (pv 0) (pa_cons (pv 1) pa_nil))))))
    (pss_cons (ps_set (i := 2) nd rfl (by first | exact Or.inl rfl | exact Or.inr rfl) (by exact (pe_callS F_had_of (hr.mono (by first | decide | omega)) rfl (W.glo 42) k_had_of b_had_of (fun σ => passAt tk σ) (by exact (pa_cons (pv 0) (pa_cons (pe_lst (pa_cons (pv 1) pa_nil)) pa_nil))))))
    (pss_one (ps_ret (by exact (pe_callS F_in_order (hr.mono (by first | decide | omega)) rfl (W.glo 43) k_in_order b_in_order (fun σ => passAt tk σ) (by exact (pa_cons (pe_lc (own := [("term", 3)]) (g := (gName 3)) rfl nd (pi_list (pe_meth0 (by exact (pe_callS F_had_of (hr.mono (by first | decide | omega)) rfl (W.glo 42) k_had_of b_had_of (fun σ => passAt tk σ) (by exact (pa_cons (pe_op op_catA (pv 0) (pe_tup (pa_cons (pv 1) pa_nil))) (pa_cons (pe_lst pa_nil) pa_nil))))) (W.cls 27) (W.meth 33) F_Kept_terms (hr.mono (by first | decide | omega)) b_Kept_terms .nil (passes_call tk (fun _ _ _ _ h => h)))) (blkOk_by (own := [("term", 3)]) (N := ["known", "letter", "ahead", "term"]) (sc := defScope s_gained) (by decide +kernel)) (fun _ _ _ _ _ => (pg_name (i := 3) nd rfl (by first | exact Or.inl rfl | exact Or.inr rfl))) (fun _ _ _ _ _ => (pts_one (pt_not (pt_val (pe_meth (pv 2) (W.cls 27) (W.meth 28) F_Kept_has (hr.mono (by first | decide | omega)) b_Kept_has .nil passL (pa_cons (pv 3) pa_nil)))))) (fun _ _ _ _ _ => (pv 3))) pa_nil)))))))), ?_⟩
    rcases h with ⟨a, xs, known, x, letter, rfl, g, hq⟩ | ⟨x, y, rfl, hodd, hq⟩
    · clear tk po
      walk_at "x"
      have hkl := g.ln
      have hsz := g.sz
      have hxl := g.hx.len
      refine .inl ⟨a, xs, known, x, letter, rfl, g.ha, g.hx, g.hw, g.ok, g.wk.1, g.wk.2, by omega, fun H1 s1 => ?_⟩
      dsimp only
      refine ⟨by decide, fun b hb => ?_⟩
      have s2 := Same.trans s1 (Same.new (o := HO.lst [x]) hb)
      refine had_call (g.same s2) (.l upd_same) fun k D rows H3 s3' gk hh => ?_
      have s3 := Same.trans s2 s3'
      refine tLc_made (C := fun J H5 zs => ∃ q rows2, J = Itl K q ∧ Same H3 H5 ∧ H5 q = some (.lst zs) ∧ Trs K H5 zs (rts rows2) ∧ (rts rows2).Nodup ∧ (∀ t ∈ rts rows2, t.ok) ∧ (rts rows2).length ≤ 1000 ∧ ∀ t, t ∈ rts rows2 ↔ Cl (known ++ [letter]) (evE known letter) t) (fun R hR => ?_) ?_
      · simp only [iList]
        walk_at "x"
        refine ⟨by decide, fun l1 hl1 => ?_⟩
        have s4 := Same.new (o := HO.tup [x]) hl1
        have s34 := Same.trans s3 s4
        have key : ∀ p H5, Same H3 H5 → SqT K H5 p (xs ++ [x]) → ∀ p2, H5 p2 = none → spHad K [.ref p, .ref p2] (upd H5 p2 (HO.lst [])) (fun x H1 => ∃ a, x = V.ref a ∧ ∃ x_2 x_3, H1 a = some (HO.ins (He.ga K d_Kept_terms.at_.fst) x_2 x_3) ∧ List.lookup (Str.ofString "terms") x_3 = none ∧ spKTerms K [x] H1 (fun x H1 => ∃ a, x = V.ref a ∧ (∃ xs, SqL K H1 a xs) ∧ R (Itl K a) H1) E) (WE (fun cls dd x H => E cls dd H) [some (V.ref a), some x, some (V.ref k), none]) := by
          intro p H5 s5 hp p2 hp2
          have s6 := Same.new (o := HO.lst []) hp2
          have s56 := Same.trans s5 s6
          have s36 := Same.trans s3 s56
          have en : known ++ [letter] ++ [] = known ++ [letter] := List.append_nil _
          refine ⟨p, xs ++ [x], known ++ [letter], p2, [], [], rfl, (Tx.of s6).sqt hp, Trs.snoc (Trs.sm s36 g.hx) (Tr.sm s36 g.hw), .l upd_same, .nil, (fun t ht => g.oks t (by rwa [en] at ht)), by rw [en, List.length_append, List.length_singleton]; omega, by rw [en]; omega, fun k2 D2 rows2 H7 s7 hk2 hD2 gk2 hh2 => ?_⟩
          rw [en] at hh2
          obtain ⟨dx, hki⟩ := gk2.ins
          refine ⟨k2, rfl, _, _, hki, rfl, k2, D2, rows2, rfl, gk2, fun q us H8 s8 hq1 hq2 hus => ⟨q, rfl, ⟨_, SqL.of hq2⟩, hR _ _ _ ⟨q, rows2, rfl, Same.trans s56 (Same.trans s7 s8), hq2, hus, gk2.nd, gk2.ok, ?_, hh2.cl⟩⟩⟩
          have := gk2.ln
          rw [rts_len]
          exact this
        refine ⟨a, l1, xs, [x], rfl, rfl, (Tx.of s34).sqt g.ha, SqT.of upd_same, ?_, fun e => ?_, fun _ e => ?_, fun _ _ p hp => ?_⟩
        · rw [List.length_singleton, sizeLine_eq]; omega
        · refine ⟨by decide, ?_⟩
          subst e
          exact key l1 _ s4 (SqT.of upd_same)
        · cases e
        · refine ⟨by decide, ?_⟩
          exact key p _ (Same.trans s4 (Same.new hp)) (SqT.of upd_same)
      · rintro J H5 zs ⟨q, rows2, rfl, s5', hq5, hzs, hnd, hok, hl2, hmem⟩
        have s5 := Same.trans s3 s5'
        refine tLc_filt (K := K) (ts := rts rows2) (walk_list (K := K) (a := q) (xs := zs)) (by have := hzs.len; omega) hzs (fun R hR => hR) (fun H' s => SqL.of (s _ _ hq5)) (fun _ => rfl) (fun _ => rfl) (fun t => !decide (t ∈ rts rows)) ?_ ?_
        · intro t v H6 R ht hv s6 hR
          walk_at "x"
          obtain ⟨dx, hki⟩ := gk.ins
          have s36 := Same.trans s5' s6
          exact ⟨_, _, s36 _ _ hki, rfl, k, D, rows, v, t, rfl, gk.same s36, hv, hok t ht, fun H7 s7 => ⟨_, rfl, hR H7 s7⟩⟩
        · intro D6 ys H6 s6 hD6 hD6' hys
          have hnd2 : ((rts rows2).filter fun t => !decide (t ∈ rts rows)).Nodup := hnd.filter _
          refine ⟨D6, ys, (rts rows2).filter fun t => !decide (t ∈ rts rows), rfl, .inl (SqL.of hD6'), hys, hnd2, (fun t ht => hok t (List.mem_filter.mp ht).1), Nat.le_trans (List.length_filter_le ..) hl2, fun p us H7 s7 hp hp7 hus => ?_⟩
          refine hq p us _ H7 (Same.trans s5 (Same.trans s6 s7)) (SqT.of hp7) hus hnd2 (fun t ht => hok t (List.mem_filter.mp ht).1) fun t => ?_
          rw [List.mem_filter, hmem, ← hh.cl t]
          simp
    · clear tk po
      walk_at "x"
      exact .inr ⟨x, y, rfl, hodd, hq⟩
theorem o_needed (W : Wd fa fn K mg) : OkF P w K mg base d_needed 65 ["known", "wanted"] (spNeeded K) := by
  have o_check_known := (o_check_known (P := P) (w := w) (base := base) W).mono (show 60 ≤ 64 by decide)
  have o_derived := (o_derived (P := P) (w := w) (base := base) W).mono (show 64 ≤ 64 by decide)
  obtain ⟨fd_check_known, F_check_known, b_check_known, k_check_known⟩ := o_check_known.ex; obtain ⟨fd_derived, F_derived, b_derived, k_derived⟩ := o_derived.ex
  refine okf W (d := d_needed) 27 sc_needed rfl rfl (fun _ _ _ _ _ _ us hl => match us, hl with | [_, _], _ => rfl) ?len (fun cdv A outer s H vs Q E hr nd hu tk po h => ?body)
  case len =>
    rintro vs H Q E (⟨_, _, _, _, _, rfl, _⟩ | ⟨_, _, rfl, _⟩) <;> rfl
  case body =>
    refine ⟨_, (pss_cons (ps_expr (by exact (pe_callS F_check_known (hr.mono (by first | decide | omega)) rfl (W.glo 45) k_check_known b_check_known (fun σ => passAt tk σ) (by exact (pa_cons (pv 0) (pa_cons (pv 1) pa_nil))))))
    (pss_cons (ps_if (pt_cmpR op_isN (by exact (pe_callS F_derived (hr.mono (by first | decide | omega)) rfl (W.glo 46) k_derived b_derived (fun σ => passAt tk σ) (by exact (pa_cons (pv 0) (pa_cons (pv 1) pa_nil))))) pe_non (nomark _)) (pss_one (ps_ret pe_non)) pss_nil)
    (pss_cons (ps_set (i := 2) nd rfl (by first | exact Or.inl rfl | exact Or.inr rfl) (pe_listRg rfl rfl (W.free 21) (prg_1 rfl (W.free 48) (pe_callB call_len (by rfl) (W.free 7) (by decide +kernel) (pa_cons (pv 0) pa_nil)))))
    (pss_cons (ps_for po rfl (pi_range3 rfl (W.free 48) (pa_cons (pe_op op_sub (pe_callB call_len (by rfl) (W.free 7) (by decide +kernel) (pa_cons (pv 0) pa_nil)) pe_int) (pa_cons (pe_un un_neg pe_int) (pa_cons (pe_un un_neg pe_int) pa_nil)))) (pg_name (i := 3) nd rfl (by first | exact Or.inl rfl | exact Or.inr rfl))
      (pss_cons (ps_setLc (i := 4) (own := [("one", 5)]) (g := (gName 5)) rfl nd rfl rfl (sw_true rfl rfl rfl (by decide +kernel)) (pi_list (pv 2)) (blkOk_by (own := [("one", 5)]) (N := ["known", "wanted", "kept", "place", "less", "one"]) (sc := defScope s_needed) (by decide +kernel)) (fun _ _ _ _ _ => (pg_name (i := 5) nd rfl (by first | exact Or.inl rfl | exact Or.inr rfl))) (fun _ _ _ _ _ => (pts_one (pt_cmpR op_ne (pv 5) (pv 3) (nomark _)))) (fun _ _ _ _ _ => (pv 5)))
    (pss_one (ps_if (pt_cmpR op_notN (by exact (pe_callS F_derived (hr.mono (by first | decide | omega)) rfl (W.glo 46) k_derived b_derived (fun σ => passAt tk σ) (by exact (pa_cons (pe_callTy call_tuple_of (by rfl) (W.free 14) (by decide +kernel) (pa_cons (pe_lc (own := [("one", 5)]) (g := (gName 5)) (tt := tYes) rfl nd (pi_list (pv 4)) (blkOk_by (own := [("one", 5)]) (N := ["known", "wanted", "kept", "place", "less", "one"]) (sc := defScope s_needed) (by decide +kernel)) (fun _ _ _ _ _ => (pg_name (i := 5) nd rfl (by first | exact Or.inl rfl | exact Or.inr rfl))) (fun _ _ _ _ _ => pts_nil) (fun _ _ _ _ _ => (pe_ix (kIx (K := K) (r := rIxT) rfl ix_tup) (pv 0) (pv 5) (fun _ _ => rfl)))) pa_nil)) (pa_cons (pv 1) pa_nil))))) pe_non (nomark _)) (pss_one (ps_set (i := 2) nd rfl (by first | exact Or.inl rfl | exact Or.inr rfl) (pv 4))) pss_nil))))
    (pss_one (ps_ret (pe_callTy call_tuple_of (by rfl) (W.free 14) (by decide +kernel) (pa_cons (pv 2) pa_nil)))))))), ?_⟩
    have szl := sizeLine_eq
    rcases h with ⟨a, xs, known, x, wanted, rfl, g, hsk, hsw, hq1, hq2⟩ | ⟨x, y, rfl, hodd, hq⟩
    · clear tk po
      walk_at "x"
      have hkl := g.ln
      have hsz := g.sz
      have hxl := g.hx.len
      refine .inl ⟨a, xs, known, x, wanted, rfl, g.ha, g.hx, g.hw, g.ok, g.wk.1, g.wk.2, by omega, fun H1 s1 => ?_⟩
      dsimp only
      refine ⟨a, xs, known, x, wanted, rfl, g.same s1, fun p lvs lines H2 s2' ht hr => ?_, fun H2 s2' hn => ?_⟩
      · dsimp only
        rw [if_neg (show ¬ V.ref p = V.non from fun e => by cases e)]
        have s2 := Same.trans s1 s2'
        simp only [tLstRg, tRg1]
        walk_at "x"
        refine ⟨xs.length, .inr ⟨_, (g.same s2).ha, rfl⟩, RgOk.of_le (by omega) (by omega) (by omega) (by omega), fun kp hkp => ?_⟩
        rw [hxl, rg_iv]
        have s3 := Same.trans s2 (Same.new (o := HO.lst (iv (List.range known.length))) hkp)
        refine tFor_same (walk_rangeC (lo := ((known.length : Nat) : Int) - 1) (c := -1) (n := known.length)) (fun R hR => ?_) (ndInv K H a x known wanted) ⟨kp, List.range known.length, _, _, _, rfl, s3, upd_same, List.pairwise_lt_range, (fun k hk => List.mem_range.mp hk), by rw [sel_all]; exact hr, fun k hk hk2 => ?_⟩ (fun i σ H1 _ _ => trivial) ?_ ?_
        · simp only [iRng3]
          walk_at "x"
          refine ⟨xs.length, .inr ⟨_, (g.same s3).ha, rfl⟩, known.length, ?_, ?_⟩
          · have := RgC.neg (i := ((known.length : Nat) : Int) - 1) (j := -1) (by omega) (by omega) (by omega) (by omega)
            rw [hxl]
            have e : (((known.length : Nat) : Int) - 1 - -1).toNat = known.length := by omega
            rw [e] at this
            exact this
          · rw [hxl]
            exact hR
        · have := List.mem_range.mp hk
          omega
        · rintro i x5 σ H4 H5 hi ⟨kp, ps, y3, y4, y5, rfl, s4, hk4, h1, h2, h3, h4⟩ ⟨rfl, rfl⟩
          have epl : (((known.length : Nat) : Int) - 1 + ((i : Nat) : Int) * -1) = ((known.length - 1 - i : Nat) : Int) := by omega
          dsimp only
          rw [epl]
          generalize hpl : known.length - 1 - i = pl
          walk_at "x"
          have hil := iv_len ps
          have psl := sorted_len h1 h2
          refine tLc_filtV (walk_list (K := K) (a := kp) (xs := iv ps)) (by omega) (fun R hR => ⟨_, rfl, kp, rfl, ⟨_, SqL.of hk4⟩, hR⟩) (fun H' s => SqL.of (s _ _ hk4)) (fun _ => rfl) (fun _ => rfl) (fun v => !decide (v = V.int ((pl : Nat) : Int))) ?_ ?_
          · intro v H6 R hv s6 hR
            walk_at "x"
            obtain ⟨k, hk, rfl⟩ := List.mem_map.mp hv
            exact ⟨rfl, hR H6 (Same.refl _)⟩
          intro L H6 s6 hL hL6
          rw [iv_filter] at hL6
          generalize hps2 : (ps.filter fun q => decide (q ≠ pl)) = qs at hL6
          have q1 : qs.Pairwise (· < ·) := hps2 ▸ h1.filter _
          have q2 : ∀ k ∈ qs, k < known.length := fun k hk => h2 k (List.mem_filter.mp (hps2 ▸ hk)).1
          have qsl := sorted_len q1 q2
          have qil := iv_len qs
          have s46 := Same.trans s4 s6
          refine tLc_map (walk_list (K := K) (a := L) (xs := iv qs)) (n := (iv qs).length) (by omega) (fun R hR => ⟨_, rfl, L, rfl, ⟨_, SqL.of hL6⟩, hR⟩) (fun H' s => SqL.of (s _ _ hL6)) (fun _ => rfl) (fun i H y => ∀ k, qs[i]? = some k → Tr K H y (known.getD k .s)) (fun i H H' y t h k hk => (h k hk).tx t) ?_ ?_
          · intro j v H7 R hj hv s7 hR
            unfold iv at hv
            rw [List.getElem?_map] at hv
            obtain ⟨k, hk, rfl⟩ := Option.map_eq_some_iff.mp hv
            have hkl := q2 k (List.mem_of_getElem? hk)
            obtain ⟨u, hu, hut⟩ := g.hx.at (getD_at hkl)
            walk_at "x"
            refine ⟨xs, (g.same (Same.trans s46 s7)).ha, u, atI_nat hu, hR _ _ (Same.refl _) fun k' e => ?_⟩
            rw [hk] at e
            cases e
            exact Tr.sm (Same.trans s46 s7) hut
          intro D ys H7 s7 hD hD7 hyl hall
          have s47 := Same.trans s46 s7
          refine ⟨D, rfl, ys, .inl ⟨SqL.of hD7, fun l hl => ?_⟩⟩
          have s8 := Same.new (o := HO.tup ys) hl
          have s48 := Same.trans s47 s8
          have hys : Trs K H7 ys (sel known qs) := Trs.of_get (by rw [hyl, sel_len, qil]) fun i y t h1 h2 => by
            have hi := (List.getElem?_eq_some_iff.mp h1).1
            have e := List.getElem?_eq_getElem (l := qs) (i := i) (by omega)
            have e2 := sel_at (known := known) e
            rw [h2] at e2
            rw [Option.some.inj e2]
            exact hall i y h1 _ e
          have hsk2 : ∀ t ∈ sel known qs, t ∈ known := sel_in q2
          have hsz2 : sizes (sel known qs ++ [wanted]) ≤ 40 * (sel known qs ++ [wanted]).length := sizes_mul fun t ht => by
            rcases List.mem_append.mp ht with q | q
            · exact hsk t (hsk2 t q)
            · rw [List.mem_singleton.mp q]; exact hsw
          rw [List.length_append, List.length_singleton, sel_len] at hsz2
          refine ⟨l, ys, sel known qs, x, wanted, rfl, ⟨SqT.of upd_same, Trs.sm s8 hys, Tr.sm s48 g.hw, fun t ht => g.ok t (hsk2 t ht), g.wk, by rw [sel_len]; omega, by omega⟩, fun p2 lvs2 lines2 H9 s9 ht9 hr9 => ?_, fun H9 s9 hn9 => ?_⟩
          · dsimp only
            rw [if_pos (by simp)]
            refine ⟨L, qs, _, _, _, rfl, Same.trans s48 s9, s9 _ _ (s8 _ _ (s7 _ _ hL6)), q1, q2, hr9, fun k hk hk2 hr => ?_⟩
            subst hps2
            obtain ⟨hk3, hk4⟩ := List.mem_filter.mp hk
            have hk5 : k ≠ pl := by simpa using hk4
            exact h4 k hk3 (by omega) (hr.sub (sel_sub filter_sub))
          · dsimp only
            rw [if_neg (by simp)]
            refine ⟨kp, ps, _, _, _, rfl, Same.trans s48 s9, s9 _ _ (s8 _ _ (s7 _ _ (s6 _ _ hk4))), h1, h2, h3, fun k hk hk2 => ?_⟩
            by_cases hk3 : known.length - i ≤ k
            · exact h4 k hk hk3
            · have : k = pl := by omega
              subst this
              rw [hps2]
              exact hn9
        · rintro σ H4 ⟨kp, ps, y3, y4, y5, rfl, s4, hk4, h1, h2, h3, h4⟩
          dsimp only
          walk_at "x"
          refine ⟨iv ps, .inl ⟨SqL.of hk4, fun l hl => ?_⟩⟩
          refine hq1 l ps _ (Same.trans s4 (Same.new hl)) (SqT.of upd_same) ⟨h1, h2, h3, fun k hk => h4 k hk (by omega)⟩
      · dsimp only
        rw [if_pos rfl]
        exact hq2 _ (Same.trans s1 s2') hn
    · clear tk po
      walk_at "x"
      exact .inr ⟨x, y, rfl, hodd, hq⟩
end
end WW

set_option maxHeartbeats 4000000
namespace WW
open PySem PySem.Spec PyProof.Rows L2
/-! ### a valuation that each step keeps -/
def vlB (f : Te → Bool) : Te → Bool
  | .pair a b => vlB f a && vlB f b
  | .lock a b => !vlB f b || vlB f a
  | .shut a b => !vlB f b || vlB f a
  | .sea a _ => vlB f a
  | .print _ => true
  | .pub _ => true
  | t => f t
theorem vl_bar {f : Te → Bool} (ho : f .own = true) {known ev : List Te} (hk : ∀ t ∈ known, vlB f t = true) {t : Te} (h : Cl known ev t) : vlB f t = true := by
  obtain ⟨n, r⟩ := h
  refine rnd_bar (C := fun t => vlB f t = true) hk (fun u t hu ht => ?_) (fun t ht => ?_) n t r
  · cases u <;> simp only [takes] at ht
    · simp only [vlB, Bool.and_eq_true] at hu
      rcases ht with rfl | rfl
      · exact hu.1
      · exact hu.2
    · obtain ⟨rfl, hk⟩ := ht
      simp only [vlB, hk] at hu
      simpa using hu
    · subst ht
      simpa only [vlB] using hu
    · obtain ⟨rfl, hk⟩ := ht
      simp only [vlB, hk] at hu
      simpa using hu
  · rcases ht with rfl | ⟨h1, h2⟩
    · exact ho
    · cases t <;> simp only [Te.parts, ne_eq, not_true_eq_false, List.mem_cons, List.not_mem_nil, or_false, forall_eq_or_imp, forall_eq] at h1 h2 <;> simp_all [vlB]
/-! ### the chain -/
def kyT : Nat → Te
  | 0 => .k0 | 1 => .k1 | 2 => .k2 | _ => .k3
def pvT : Nat → Te
  | 0 => .s | j + 1 => kyT j
/-- the row that gives pvT j by kyT j -/
def Lnk (j : Nat) (t : Te) : Prop := t = .lock (pvT j) (kyT j) ∨ t = .shut (pvT j) (kyT j) ∨ t = .pair .c (.lock (pvT j) (kyT j))
def Lst (m : Nat) (t : Te) : Prop := t = kyT (m - 1) ∨ t = .sea (kyT (m - 1)) .m
def exs (m : Nat) : List Te := [.print .s, .lock .m .k0, .pub (kyT (m - 1))]
/-- rows of a chain of m keys -/
structure Chn (m : Nat) (rows : List Te) : Prop where
  len : rows.length = m + 1
  lnk : ∀ j r, j < m → rows[j]? = some r → Lnk j r
  lst : ∀ r, rows[m]? = some r → Lst m r
def vf (i : Nat) : Te → Bool
  | .s => false
  | .k0 => decide (i ≤ 0)
  | .k1 => decide (i ≤ 1)
  | .k2 => decide (i ≤ 2)
  | .k3 => decide (i ≤ 3)
  | _ => true
theorem vf_ky {i j : Nat} (h : j ≤ 3) : vlB (vf i) (kyT j) = decide (i ≤ j) := by
  match j, h with
  | 0, _ => rfl
  | 1, _ => rfl
  | 2, _ => rfl
  | 3, _ => rfl
theorem vf_pv {i j : Nat} (h : j ≤ 3) : vlB (vf i) (pvT j) = decide (i + 1 ≤ j) := by
  cases j with
  | zero => show false = _; simp
  | succ j =>
    show vlB (vf i) (kyT j) = _
    rw [vf_ky (by omega)]
    simp
theorem vf_lnk {i j : Nat} {t : Te} (hj : j ≤ 3) (h : Lnk j t) : vlB (vf i) t = decide (j ≠ i) := by
  have e : (!decide (i ≤ j) || decide (i + 1 ≤ j)) = decide (j ≠ i) := by
    rcases Nat.lt_trichotomy i j with q | q | q
    · rw [decide_eq_true (show i ≤ j by omega), decide_eq_true (show i + 1 ≤ j by omega), decide_eq_true (by omega)]; rfl
    · rw [decide_eq_true (show i ≤ j by omega), decide_eq_false (show ¬ i + 1 ≤ j by omega), decide_eq_false (by omega)]; rfl
    · rw [decide_eq_false (show ¬ i ≤ j by omega), decide_eq_true (show j ≠ i by omega)]; rfl
  rcases h with rfl | rfl | rfl
  · simp only [vlB, vf_ky hj, vf_pv hj]; exact e
  · simp only [vlB, vf_ky hj, vf_pv hj]; exact e
  · simp only [vlB, vf_ky hj, vf_pv hj]
    rw [e]
    rfl
theorem vf_lst {i m : Nat} {t : Te} (h1 : 1 ≤ m) (hm : m ≤ 4) (hi : i ≤ m) (h : Lst m t) : vlB (vf i) t = decide (m ≠ i) := by
  have e : decide (i ≤ m - 1) = decide (m ≠ i) := decide_eq_decide.mpr (by omega)
  rcases h with rfl | rfl
  · rw [vf_ky (by omega), e]
  · simp only [vlB, vf_ky (show m - 1 ≤ 3 by omega)]
    exact e
theorem vf_exs {i m : Nat} {t : Te} (h : t ∈ exs m) : vlB (vf i) t = true := by
  unfold exs at h
  simp only [List.mem_cons, List.not_mem_nil, or_false] at h
  rcases h with rfl | rfl | rfl
  · rfl
  · simp [vlB, vf]
  · rfl
theorem Chn.val {m : Nat} {rows : List Te} (c : Chn m rows) (h1 : 1 ≤ m) (hm : m ≤ 4) {i j : Nat} {r : Te} (hi : i ≤ m) (h : rows[j]? = some r) : vlB (vf i) r = decide (j ≠ i) := by
  have hj := (List.getElem?_eq_some_iff.mp h).1
  have hl := c.len
  by_cases q : j = m
  · subst q
    exact vf_lst h1 hm hi (c.lst r h)
  · exact vf_lnk (by omega) (c.lnk j r (by omega) h)
theorem Lnk.gives {j : Nat} {t : Te} (h : Lnk j t) {known ev : List Te} (ht : Cl known ev t) (hk : Cl known ev (kyT j)) : Cl known ev (pvT j) := by
  rcases h with rfl | rfl | rfl
  · exact Cl.take ht ⟨rfl, hk⟩
  · exact Cl.take ht ⟨rfl, hk⟩
  · exact Cl.take (u := .lock (pvT j) (kyT j)) (Cl.take ht (.inr rfl)) ⟨rfl, hk⟩
theorem Chn.has {m : Nat} {rows : List Te} (c : Chn m rows) (h1 : 1 ≤ m) {known ev : List Te} (h : ∀ r ∈ rows, Cl known ev r) : Cl known ev .s := by
  have hl := c.len
  have go : ∀ j, j < m → Cl known ev (kyT j) → Cl known ev .s := by
    intro j
    induction j with
    | zero =>
      intro hj hk
      have e := List.getElem?_eq_getElem (l := rows) (i := 0) (by omega)
      exact (c.lnk 0 _ hj e).gives (h _ (List.mem_of_getElem? e)) hk
    | succ j ih =>
      intro hj hk
      have e := List.getElem?_eq_getElem (l := rows) (i := j + 1) (by omega)
      exact ih (by omega) ((c.lnk (j + 1) _ hj e).gives (h _ (List.mem_of_getElem? e)) hk)
  refine go (m - 1) (by omega) ?_
  have e := List.getElem?_eq_getElem (l := rows) (i := m) (by omega)
  have hr := h _ (List.mem_of_getElem? e)
  rcases c.lst _ e with q | q
  · rwa [q] at hr
  · rw [q] at hr
    exact Cl.take hr rfl
/-- without one row, s stays out -/
theorem Chn.lacks {m : Nat} {rows ex known ev : List Te} (c : Chn m rows) (h1 : 1 ≤ m) (hm : m ≤ 4) (he : ∀ t ∈ ex, t ∈ exs m) {i : Nat} {r : Te} (hr : rows[i]? = some r) (hk : ∀ t ∈ known, (t ∈ rows ∨ t ∈ ex) ∧ t ≠ r) : ¬ Cl known ev .s := by
  intro h
  have hil := (List.getElem?_eq_some_iff.mp hr).1
  have hl := c.len
  have hb : vlB (vf i) .s = true := vl_bar (f := vf i) rfl (fun t ht => ?_) h
  · simp [vlB, vf] at hb
  · obtain ⟨h2, h3⟩ := hk t ht
    rcases h2 with h2 | h2
    · obtain ⟨j, hj, e⟩ := List.getElem_of_mem h2
      have e2 : rows[j]? = some t := by rw [List.getElem?_eq_getElem hj, e]
      rw [c.val h1 hm (by omega) e2, decide_eq_true]
      rintro rfl
      rw [hr] at e2
      exact h3 (Option.some.inj e2).symm
    · exact vf_exs (he t h2)
theorem Chn.nodup {m : Nat} {rows ex : List Te} (c : Chn m rows) (h1 : 1 ≤ m) (hm : m ≤ 4) (he : ∀ t ∈ ex, t ∈ exs m) (hn : ex.Nodup) : (rows ++ ex).Nodup := by
  have hl := c.len
  refine List.nodup_append.mpr ⟨?_, hn, ?_⟩
  · rw [List.nodup_iff_pairwise_ne, List.pairwise_iff_getElem]
    intro i j hi hj hij e
    have e1 := c.val h1 hm (i := i) (by omega) (List.getElem?_eq_getElem hi)
    have e2 := c.val h1 hm (i := i) (by omega) (List.getElem?_eq_getElem hj)
    rw [e, e2, decide_eq_true (by omega), decide_eq_false (by omega)] at e1
    cases e1
  · intro a ha b hb e
    subst e
    obtain ⟨i, hi, e⟩ := List.getElem_of_mem ha
    have e1 := c.val h1 hm (i := i) (by omega) (List.getElem?_eq_getElem hi)
    rw [e, vf_exs (he a hb), decide_eq_false (by omega)] at e1
    cases e1
theorem sorted_ext : ∀ {a b : List Nat}, a.Pairwise (· < ·) → b.Pairwise (· < ·) → (∀ k, k ∈ a ↔ k ∈ b) → a = b := fun {a b} ha hb h => by
  have na : a.Nodup := ha.imp fun q => Nat.ne_of_lt q
  have nb : b.Nodup := hb.imp fun q => Nat.ne_of_lt q
  have hp : a.Perm b := (List.perm_ext_iff_of_nodup na nb).mpr h
  exact hp.eq_of_pairwise (le := (· < ·)) (fun x y _ _ h1 h2 => absurd h1 (Nat.lt_asymm h2)) ha hb
/-- the places of the rows -/
noncomputable def plc (known rows : List Te) : List Nat := (List.range known.length).filter fun k => decide (known.getD k .s ∈ rows)
theorem plc_mem {known rows : List Te} {k : Nat} : k ∈ plc known rows ↔ k < known.length ∧ known.getD k .s ∈ rows := by
  unfold plc
  rw [List.mem_filter, List.mem_range, decide_eq_true_eq]
theorem plc_lt {known rows : List Te} : (plc known rows).Pairwise (· < ·) := List.Pairwise.filter _ List.pairwise_lt_range
theorem nodup_getD {l : List Te} (hn : l.Nodup) {i j : Nat} (hi : i < l.length) (hj : j < l.length) (e : l.getD i .s = l.getD j .s) : i = j := by
  have h1 := nodup_ix hn (getD_at hi)
  have h2 := nodup_ix hn (getD_at hj)
  rw [← h1, ← h2, e]
theorem Chn.need {m : Nat} {rows ex known : List Te} (c : Chn m rows) (h1 : 1 ≤ m) (hm : m ≤ 4) (he : ∀ t ∈ ex, t ∈ exs m) (hn : ex.Nodup) (hp : known.Perm (rows ++ ex)) {ps : List Nat} (h : Need known .s ps) : ps = plc known rows := by
  have kn : known.Nodup := hp.nodup_iff.mpr (c.nodup h1 hm he hn)
  have hmem : ∀ t, t ∈ known ↔ t ∈ rows ∨ t ∈ ex := fun t => by rw [hp.mem_iff, List.mem_append]
  have hin : ∀ k, k < known.length → known.getD k .s ∈ rows → k ∈ ps := fun k hk hr => Classical.byContradiction fun hnk => by
    obtain ⟨i, hi, e⟩ := List.getElem_of_mem hr
    have e2 : rows[i]? = some (known.getD k .s) := by rw [List.getElem?_eq_getElem hi, e]
    refine c.lacks h1 hm he e2 (known := sel known ps) (fun t ht => ?_) h.has
    obtain ⟨j, hj, rfl⟩ := sel_mem.mp ht
    have hjl := h.bd j hj
    refine ⟨(hmem _).mp (List.mem_of_getElem? (getD_at hjl)), fun e3 => hnk ?_⟩
    rw [← nodup_getD kn hjl hk e3]
    exact hj
  refine sorted_ext h.lt plc_lt fun k => ⟨fun hk => plc_mem.mpr ⟨h.bd k hk, Classical.byContradiction fun hnr => ?_⟩, fun hk => hin k (plc_mem.mp hk).1 (plc_mem.mp hk).2⟩
  refine h.min k hk (c.has h1 fun r hr => .known ?_)
  have hrk : r ∈ known := (hmem r).mpr (.inl hr)
  obtain ⟨j, hj, e⟩ := List.getElem_of_mem hrk
  have e2 : known.getD j .s = r := by rw [List.getD_eq_getElem?_getD, List.getElem?_eq_getElem hj, e]; rfl
  refine sel_mem.mpr ⟨j, List.mem_filter.mpr ⟨hin j hj (e2 ▸ hr), decide_eq_true fun q => hnr ?_⟩, e2⟩
  rw [← q, e2]
  exact hr
end WW

set_option maxHeartbeats 4000000
namespace WW
open PySem PySem.Spec PyProof.Rows L2
local macro_rules | `(tactic| walk_at "x") => `(tactic| simp only [tSeq, tNext, tAsg, gName, tRet, tRetN, tIfS, tOp, tUn, rI, rI0, rU, tTest, tB, tAnd, tOr, tNot, tAndV, tOrV, tNotV, tIf, tCons, tNil, tTup, tLst, tCall, tCallS, tMeth, tMake, tFld, sFld, tBM, tBM0, tCB, tSl, tPart, tNoPart, tDrop, tPar, tPar3, tAug, ipI, gTup, gCons, gNil, gSub, rSetL, rAppend, rPop, rIxL, rIxS, rIxT, rEq, rNe, tChain, tNever, tThen, tVar, tC, L2.start, List.map_cons, List.map_nil, List.length_cons, List.length_nil, List.replicate_succ, List.replicate_zero, List.append_nil, List.nil_append, List.cons_append, Nat.reduceAdd, Nat.reduceSub, Nat.add_zero, Nat.zero_add, Nat.sub_zero, Nat.sub_self,
  List.getElem?_cons_zero, List.getElem?_cons_succ, Option.some.injEq, exists_eq_left', exists_eq_left, exists_eq', exists_eq, exists_and_left, List.set_cons_zero, List.set_cons_succ, V.int.injEq, V.bl.injEq, V.str.injEq, V.ref.injEq, V.ty.injEq, List.cons.injEq, and_true, true_and, and_assoc, if_true, if_false, Bool.false_eq_true, reduceCtorEq, false_and, and_false, exists_false, false_or, or_false, Bool.not_true, Bool.not_false, decide_eq_true_eq, ite_true, ite_false, WE, cxOf_K, cxOf_mg, rSlS, scal, wipe, mem_low, mem_dig, mem_brk, mem_brk4, sgn_inj, Bool.decide_eq_true])

def spLParts (K : PySem.W.Frag) : Sp := fun vs H Q _ => ∃ x t, vs = [x] ∧ Tr K H x t ∧ ∀ p us H', Same H H' → H p = none → H' p = some (.lst us) → Trs K H' us t.parts → Q (.ref p) H'
def spLWithin (K : PySem.W.Frag) : Sp := fun vs H Q _ => ∃ a xs ts, vs = [.ref a] ∧ SqA K H a xs ∧ Trs K H xs ts ∧ (∀ t ∈ ts, t.ok) ∧ ts.length ≤ 50 ∧ ∀ p us fs H', Same H H' → H p = none → H' p = some (.lst us) → Trs K H' us fs → fs.Nodup → (∀ t, t ∈ fs ↔ ∃ u ∈ ts, Sub t u) → Q (.ref p) H'
def spLLine (K : PySem.W.Frag) : Sp := fun vs H Q _ => ∃ a xs ts, vs = [.ref a] ∧ SqA K H a xs ∧ Trs K H xs ts ∧ (∀ t ∈ ts, t.ok) ∧ ts.length ≤ 1000 ∧ ∀ p us H', Same H H' → H p = none → H' p = some (.tup us) → Trs K H' us (ordE (dedup ts)) → Q (.ref p) H'
def spLNext (K : PySem.W.Frag) : Sp := fun vs H Q _ => ∃ e evs ev h hvs hd, vs = [.ref e, .ref h] ∧ H e = some (.lst evs) ∧ Trs K H evs ev ∧ (∀ t ∈ ev, t.ok) ∧ ev.length ≤ 10000 ∧ H h = some (.lst hvs) ∧ Trs K H hvs hd ∧ (∀ t ∈ hd, t.ok) ∧ hd.length ≤ 10000 ∧
  ∀ p us ms H', Same H H' → H p = none → H' p = some (.lst us) → Trs K H' us ms → (∀ t, t ∈ ms ↔ nxt ev (fun t => t ∈ hd) t) → ms.length ≤ 3 * hd.length + ev.length → Q (.ref p) H'
/-- the waiting ones from the end -/
noncomputable def wthE : Nat → List Te → List Te → List Te
  | 0, _, found => found
  | _ + 1, [], found => found
  | f + 1, t :: l, found => if t ∈ found then wthE f l found else wthE f (t.parts.reverse ++ l) (found ++ [t])
theorem szDs_rev (ts : List Te) : szDs (ts.reverse.map Te.enc) = szDs (ts.map Te.enc) := by
  induction ts with
  | nil => rfl
  | cons t ts ih =>
    rw [List.reverse_cons, List.map_append, szDs_app, ih]
    simp [szDs]
    omega
theorem wthE_law : ∀ (f : Nat) (l found : List Te), szDs (l.map Te.enc) < f → found.Nodup → (∀ t ∈ found, ∀ p ∈ t.parts, p ∈ found ∨ p ∈ l) →
    (wthE f l found).Nodup ∧ (∀ t ∈ wthE f l found, t ∈ found ∨ ∃ u ∈ l, Sub t u) ∧ (∀ t, t ∈ found ∨ t ∈ l → t ∈ wthE f l found) ∧ (∀ t ∈ wthE f l found, ∀ p ∈ t.parts, p ∈ wthE f l found) := by
  intro f
  induction f with
  | zero => intro l found h; omega
  | succ f ih =>
    intro l found h hn hp
    cases l with
    | nil => exact ⟨hn, fun t h => .inl h, fun t h => h.resolve_right (by simp), fun t h p g => (hp t h p g).resolve_right (by simp)⟩
    | cons t l =>
      simp only [List.map_cons, szDs] at h
      simp only [wthE]
      by_cases ht : t ∈ found
      · rw [if_pos ht]
        obtain ⟨h1, h2, h3, h4⟩ := ih l found (by omega) hn (fun u hu p hp2 => by
          rcases hp u hu p hp2 with g | g
          · exact .inl g
          · rcases List.mem_cons.mp g with rfl | g
            · exact .inl ht
            · exact .inr g)
        refine ⟨h1, fun a ha => ?_, fun a ha => h3 a ?_, h4⟩
        · rcases h2 a ha with g | ⟨v, hv, hs⟩
          · exact .inl g
          · exact .inr ⟨v, List.mem_cons_of_mem _ hv, hs⟩
        · rcases ha with g | g
          · exact .inl g
          · rcases List.mem_cons.mp g with rfl | g
            · exact .inl ht
            · exact .inr g
      · rw [if_neg ht]
        have hsz := parts_sz (partsD_enc t)
        obtain ⟨h1, h2, h3, h4⟩ := ih (t.parts.reverse ++ l) (found ++ [t]) (by rw [List.map_append, szDs_app, szDs_rev]; omega) (by
          rw [List.nodup_append]
          exact ⟨hn, by simp, fun a ha b hb => by
            rw [List.mem_singleton.mp hb]
            rintro rfl
            exact ht ha⟩) (fun u hu p hp2 => by
          rcases List.mem_append.mp hu with hu | hu
          · rcases hp u hu p hp2 with g | g
            · exact .inl (List.mem_append_left _ g)
            · rcases List.mem_cons.mp g with rfl | g
              · exact .inl (List.mem_append_right _ (List.mem_singleton.mpr (by rfl)))
              · exact .inr (List.mem_append_right _ g)
          · rw [List.mem_singleton.mp hu] at hp2
            exact .inr (List.mem_append_left _ (List.mem_reverse.mpr hp2)))
        refine ⟨h1, fun a ha => ?_, fun a ha => h3 a ?_, h4⟩
        · rcases h2 a ha with g | ⟨v, hv, hs⟩
          · rcases List.mem_append.mp g with g | g
            · exact .inl g
            · rw [List.mem_singleton.mp g]
              exact .inr ⟨t, List.mem_cons_self .., .rfl t⟩
          · rcases List.mem_append.mp hv with hv | hv
            · exact .inr ⟨t, List.mem_cons_self .., hs.trans (.part (List.mem_reverse.mp hv) (.rfl t))⟩
            · exact .inr ⟨v, List.mem_cons_of_mem _ hv, hs⟩
        · rcases ha with g | g
          · exact .inl (List.mem_append_left _ g)
          · rcases List.mem_cons.mp g with rfl | g
            · exact .inl (List.mem_append_right _ (List.mem_singleton.mpr (by rfl)))
            · exact .inr (List.mem_append_right _ g)
theorem wthE_mem (ts : List Te) : (wthE (szDs (ts.map Te.enc) + 1) ts.reverse []).Nodup ∧ ∀ t, t ∈ wthE (szDs (ts.map Te.enc) + 1) ts.reverse [] ↔ ∃ u ∈ ts, Sub t u := by
  obtain ⟨h1, h2, h3, h4⟩ := wthE_law (szDs (ts.map Te.enc) + 1) ts.reverse [] (by rw [szDs_rev]; omega) List.nodup_nil (fun _ h => nomatch h)
  refine ⟨h1, fun t => ⟨fun h => ?_, ?_⟩⟩
  · obtain ⟨u, hu, hs⟩ := (h2 t h).resolve_left (by simp)
    exact ⟨u, List.mem_reverse.mp hu, hs⟩
  · rintro ⟨u, hu, hs⟩
    have hu' := h3 u (.inr (List.mem_reverse.mpr hu))
    induction hs with
    | rfl => exact hu'
    | part hp _ ih => exact h4 _ (ih hu hu') _ hp
def wInv (K : PySem.W.Frag) (H : Hp) (a Fa : Addr) (res : List Te) (m : Nat) (σ : L2.St) (H1 : Hp) : Prop := ∃ Wl l found fv ws y, σ = [some (V.ref a), some (V.ref Fa), some (V.ref Wl), y] ∧ Same H H1 ∧ H Fa = none ∧ H Wl = none ∧ Fa ≠ Wl ∧ H1 Fa = some (.lst fv) ∧ Trs K H1 fv found ∧ H1 Wl = some (.lst ws) ∧ Trs K H1 ws l.reverse ∧
  (∀ t ∈ l, t.ok) ∧ (∀ t ∈ found, t.ok) ∧ m = szDs (l.map Te.enc) ∧ found.length + m ≤ 100000 ∧ ∃ f, m < f ∧ res = wthE f l found
section
variable {P : Program} {w : World} {K : PySem.W.Frag} {mg : Str → Option Value} {base : Heap}
theorem o__law_parts (W : Wd fa fn K mg) : OkF P w K mg base d__law_parts 1 ["term"] (spLParts K) := by
  skip
  refine okf W (d := d__law_parts) 30 sc__law_parts rfl rfl (fun _ _ _ _ _ _ us hl => match us, hl with | [_], _ => rfl) ?len (fun cdv A outer s H vs Q E hr nd hu tk po h => ?body)
  case len =>
    rintro vs H Q E ⟨_, _, rfl, _⟩
    rfl
  case body =>
    refine ⟨_, (pss_one (ps_ret (pe_ifExp (pt_cmpR op_in_seq (pe_ix ix_tup (pv 0) pe_int (fun _ _ => rfl)) (pe_lst (pa_cons pe_str (pa_cons pe_str (pa_cons pe_str (pa_cons pe_str (pa_cons pe_str (pa_cons pe_str pa_nil))))))) (by rfl)) (pe_callTy call_list_of (by rfl) (W.free 21) (by decide +kernel) (pa_cons (pe_slice sl_tup (pv 0) (po_some pe_int) po_none) pa_nil)) (pe_lst pa_nil)))), ?_⟩
    obtain ⟨x, t, rfl, hx, hq⟩ := h
    clear tk po
    walk_at "x"
    obtain ⟨p, us, rfl, h1, h2⟩ := hx.view
    refine ⟨p, rfl, _, h1, _, atI_nat (j := 0) rfl, ?_⟩
    refine ⟨by decide, fun p1 hp1 => ?_⟩
    by_cases c : t.parts = []
    · refine rIn_lit (ss := made6.map Str.ofString) (.l upd_same) rfl false (made_no c) ⟨_, rfl, iteF ⟨by decide, fun q hq' => ?_⟩⟩
      have s1 := Same.new (o := HO.lst [V.str (Str.ofString "pair"), V.str (Str.ofString "lock"), V.str (Str.ofString "shut"), V.str (Str.ofString "seal"), V.str (Str.ofString "print"), V.str (Str.ofString "pub")]) hp1
      exact hq q [] _ (Same.trans s1 (Same.new hq')) (Same.none s1 hq') upd_same (by rw [c]; exact .nil)
    · refine rIn_lit (ss := made6.map Str.ofString) (.l upd_same) rfl true (made_yes c) ⟨_, rfl, iteT ?_⟩
      have s1 := Same.new (o := HO.lst [V.str (Str.ofString "pair"), V.str (Str.ofString "lock"), V.str (Str.ofString "shut"), V.str (Str.ofString "seal"), V.str (Str.ofString "print"), V.str (Str.ofString "pub")]) hp1
      have h2' := h2 c
      have hul := h2'.len
      have e1 : HT.sIx (V.str (Str.ofString t.word) :: us).length 0 (some 1) = 1 := by
        rw [show (1 : Int) = ((1 : Nat) : Int) from rfl, HT.sIx_nat]
        simp
      refine ⟨p, _, rfl, (Tx.of s1).sqt h1, fun e => by rw [e1] at e; omega, fun q hq' => ⟨q, rfl, _, .inr (SqT.of upd_same), fun l hl => ?_⟩⟩
      have e2 : cutV (V.str (Str.ofString t.word) :: us) (some 1) none = us := by
        unfold cutV
        rw [e1, HT.sIx_none]
        simp
      rw [e2] at hl ⊢
      have s2 := Same.trans s1 (Same.trans (Same.new hq') (Same.new (o := HO.lst us) hl))
      have s3 := Same.trans s1 (Same.new (o := HO.tup us) hq')
      exact hq l us _ s2 (Same.none s3 hl) upd_same (Trs.sm s2 h2')
theorem o__law_within (W : Wd fa fn K mg) : OkF P w K mg base d__law_within 2 ["terms"] (spLWithin K) := by
  have o__law_parts := (o__law_parts (P := P) (w := w) (base := base) W)
  obtain ⟨fd__law_parts, F__law_parts, b__law_parts, k__law_parts⟩ := o__law_parts.ex
  refine okf W (d := d__law_within) 31 sc__law_within rfl rfl (fun _ _ _ _ _ _ us hl => match us, hl with | [_], _ => rfl) ?len (fun cdv A outer s H vs Q E hr nd hu tk po h => ?body)
  case len =>
    rintro vs H Q E ⟨_, _, _, rfl, _⟩
    rfl
  case body =>
    refine ⟨_, (pss_cons (ps_par (i := 1) (j := 2) (by rfl) nd rfl rfl (by decide) rfl rfl (pa_cons (pe_lst pa_nil) (pa_cons (pe_callTy call_list_of (by rfl) (W.free 21) (by decide +kernel) (pa_cons (pv 0) pa_nil)) pa_nil)) (by rfl))
    (pss_cons (ps_while po (pt_cmpR (op_neW hr.units) (pv 2) (pe_lst pa_nil) (nomark _))
      (pss_cons (ps_set (i := 3) nd rfl (by first | exact Or.inl rfl | exact Or.inr rfl) (pe_bm0 PySem.F.plainAttrs_list PySem.F.slot_list_pop PySem.F.type_list_pop mt_pop (pv 2)))
    (pss_one (ps_if (pt_cmpR (op_notInT hr.units) (pv 3) (pv 1) (by rfl)) (pss_cons (ps_expr (pe_bm PySem.F.plainAttrs_list PySem.F.slot_list_append PySem.F.type_list_append mt_append (pv 1) (pa_cons (pv 3) pa_nil)))
    (pss_one (ps_set (i := 2) nd rfl (by first | exact Or.inl rfl | exact Or.inr rfl) (pe_op op_cat (pv 2) (by exact (pe_callS F__law_parts (hr.mono (by first | decide | omega)) rfl (W.glo 50) k__law_parts b__law_parts (fun σ => passAt tk σ) (by exact (pa_cons (pv 3) pa_nil)))))))) pss_nil))))
    (pss_one (ps_ret (pv 1))))), ?_⟩
    obtain ⟨a, xs, ts, rfl, ha, hx, hok, hln, hq⟩ := h
    clear tk po
    have szl := sizeLine_eq
    walk_at "x"
    refine ⟨by decide, fun Fa hFa => ⟨xs, ha.same (Same.new hFa), fun W0 hW0 => ?_⟩⟩
    have sF := Same.new (o := HO.lst []) hFa
    have hFW : Fa ≠ W0 := fun e => by rw [← e, upd_same] at hW0; cases hW0
    have s1 := Same.trans sF (Same.new (o := HO.lst xs) hW0)
    have bW := Same.none sF hW0
    have okA : ∀ t ∈ ts, t.ok := hok
    have hsz := szDs_enc ts
    have hsz2 := sizes_le hok
    obtain ⟨wn, wm⟩ := wthE_mem ts
    unfold tWhile
    refine ⟨wInv K H a Fa (wthE (szDs (ts.map Te.enc) + 1) ts.reverse []), ⟨_, W0, ts.reverse, [], [], xs, none, rfl, s1, hFa, bW, hFW, by rw [upd_ne hFW, upd_same], .nil, upd_same, by rw [List.reverse_reverse]; exact Trs.sm s1 hx, (fun t ht => okA t (List.mem_reverse.mp ht)), (fun t ht => nomatch ht), rfl, by rw [szDs_rev]; simp; omega, szDs (ts.map Te.enc) + 1, by rw [szDs_rev]; omega, rfl⟩, ?_⟩
    rintro m σ H1 ⟨Wl, l, found, fv, ws, y, rfl, s2, bF, bW, nFW, hF, hfv, hW, hws, okl, okf, rfl, hlen, f, hf, hres⟩
    have hwl := hws.len
    have hfl := hfv.len
    rw [List.length_reverse] at hwl
    walk_at "x"
    refine ⟨by decide, fun q hq' => ?_⟩
    have sq := Same.new (o := HO.lst []) hq'
    refine rNeTs (SqL.of (sq _ _ hW)) (SqL.of upd_same) (Trs.sm sq hws) .nil (fun t ht => okl t (List.mem_reverse.mp ht)) ⟨_, rfl, ?_⟩
    obtain ⟨f, rfl⟩ : ∃ f', f = f' + 1 := ⟨f - 1, by omega⟩
    have hF2 := sq _ _ hF
    have hW2 := sq _ _ hW
    have hfv2 := Trs.sm sq hfv
    have hws2 := Trs.sm sq hws
    have s3 := Same.trans s2 sq
    generalize (upd H1 q (HO.lst [])) = H2 at hF2 hW2 hfv2 hws2 s3
    cases l with
    | nil =>
      rw [decide_eq_true (by rfl)]
      refine iteF ?_
      have e : wthE (szDs (ts.map Te.enc) + 1) ts.reverse [] = found := hres
      exact hq Fa fv found H2 s3 bF hF2 hfv2 (e ▸ wn) (e ▸ wm)
    | cons t l =>
      rw [decide_eq_false (by simp)]
      rw [List.reverse_cons] at hws2
      have hne : ws ≠ [] := fun e => by rw [e] at hwl; simp at hwl
      obtain ⟨v, hv, hvt⟩ := hws2.at (i := l.length) (t := t) (by simp)
      have hv' : ws[ws.length - 1]? = some v := by rw [hwl]; exact hv
      have ew : ws = ws.dropLast ++ [v] := by
        have h1 := List.dropLast_concat_getLast hne
        have h2 : ws.getLast hne = v := by
          rw [List.getLast_eq_getElem]
          rw [List.getElem?_eq_getElem (by rw [hwl]; simp)] at hv'
          exact Option.some.inj hv'
        rw [← h1, h2]
        simp
      have hdl : Trs K H2 ws.dropLast l.reverse := by
        refine Trs.of_get (by simp; rw [hwl]; simp) fun i y u h1 h2 => ?_
        have hi := (List.getElem?_eq_some_iff.mp h2).1
        rw [List.length_reverse] at hi
        have h3 : ws[i]? = some y := by rw [ew, List.getElem?_append_left (by simp; rw [hwl]; simp; omega)]; exact h1
        obtain ⟨u', hu', hy⟩ := hws2.get h3
        rw [List.getElem?_append_left (by simpa using hi), h2] at hu'
        cases hu'
        exact hy
      refine iteT ⟨fun σ' H' => ∃ m', m' < szDs ((t :: l).map Te.enc) ∧ wInv K H a Fa (wthE (szDs (ts.map Te.enc) + 1) ts.reverse []) m' σ' H', fun σ' H' h => h, tyLst hW2, _, hW2, v, hv', ?_⟩
      have tP : Tx H2 (upd H2 Wl (.lst ws.dropLast)) := Tx.up hW2 noTup_l
      have s4 : Same H (upd H2 Wl (.lst ws.dropLast)) := Same.mut s3 bW
      have hF3 : (upd H2 Wl (.lst ws.dropLast)) Fa = some (.lst fv) := by rw [upd_ne nFW]; exact hF2
      have hW3 : (upd H2 Wl (.lst ws.dropLast)) Wl = some (.lst ws.dropLast) := upd_same
      have hfv3 := hfv2.tx tP
      have hdl3 := hdl.tx tP
      have hvt3 := Tr.tx tP hvt
      generalize (upd H2 Wl (.lst ws.dropLast)) = H3 at s4 hF3 hW3 hfv3 hdl3 hvt3
      have tok := okl t (List.mem_cons_self ..)
      have okl' : ∀ u ∈ l, u.ok := fun u hu => okl u (List.mem_cons_of_mem _ hu)
      have hr : wthE (f + 1) (t :: l) found = if t ∈ found then wthE f l found else wthE f (t.parts.reverse ++ l) (found ++ [t]) := rfl
      rw [hr] at hres
      have hpos := szD_pos t.enc
      have hszp := parts_sz (partsD_enc t)
      simp only [List.map_cons, szDs] at hlen hf ⊢
      refine ⟨t, found, Fa, fv, rfl, .l hF3, hfv3, hvt3, tok, _, rfl, ?_⟩
      by_cases ht : t ∈ found
      · rw [decide_eq_true ht]
        rw [if_pos ht] at hres
        exact iteF ⟨szDs (l.map Te.enc), by omega, Wl, l, found, fv, ws.dropLast, _, rfl, s4, bF, bW, nFW, hF3, hfv3, hW3, hdl3, okl', okf, rfl, by omega, f, by omega, hres⟩
      · rw [decide_eq_false ht]
        rw [if_neg ht] at hres
        refine iteT ⟨tyLst hF3, _, hF3, by omega, ?_⟩
        have tQ : Tx H3 (upd H3 Fa (.lst (fv ++ [v]))) := Tx.up hF3 noTup_l
        refine ⟨v, t, rfl, Tr.tx tQ hvt3, fun p us H5 s5 hp hp5 hus => ?_⟩
        have hWl5 : H5 Wl = some (.lst ws.dropLast) := s5 _ _ (by rw [upd_ne nFW.symm]; exact hW3)
        have hF5 : H5 Fa = some (.lst (fv ++ [v])) := s5 _ _ upd_same
        have hdl5 := Trs.sm s5 (hdl3.tx tQ)
        have hfv5 := Trs.sm s5 (Trs.snoc (hfv3.tx tQ) (Tr.tx tQ hvt3))
        have hul := hus.len
        have hpl : t.parts.length ≤ 2 := by cases t <;> simp [Te.parts]
        have hdll := hdl.len
        rw [List.length_reverse] at hdll
        have hlz := szDs_len (l.map Te.enc)
        rw [List.length_map] at hlz
        have s6 : Same H H5 := Same.trans (Same.mut s4 bF) s5
        refine ⟨Wl, p, _, us, rfl, rfl, hWl5, hp5, by omega, fun W2 hW2n => ?_⟩
        have s7 := Same.new (o := HO.lst (ws.dropLast ++ us)) hW2n
        refine ⟨szDs ((t.parts.reverse ++ l).map Te.enc), by rw [List.map_append, szDs_app, szDs_rev]; omega, W2, t.parts.reverse ++ l, found ++ [t], fv ++ [v], ws.dropLast ++ us, _, rfl, Same.trans s6 s7, bF, Same.none s6 hW2n, (fun e => by rw [← e, hF5] at hW2n; cases hW2n), s7 _ _ hF5, Trs.sm s7 hfv5, upd_same, ?_, ?_, ?_, rfl, ?_, f, ?_, hres⟩
        · rw [List.reverse_append, List.reverse_reverse]
          exact Trs.sm s7 (Trs.app hdl5 hus)
        · intro u hu
          rcases List.mem_append.mp hu with h | h
          · exact tok.part (List.mem_reverse.mp h)
          · exact okl' u h
        · intro u hu
          rcases List.mem_append.mp hu with h | h
          · exact okf u h
          · rw [List.mem_singleton.mp h]; exact tok
        · rw [List.map_append, szDs_app, szDs_rev, List.length_append, List.length_singleton]; omega
        · rw [List.map_append, szDs_app, szDs_rev]; omega
theorem o__law_line (W : Wd fa fn K mg) : OkF P w K mg base d__law_line 60 ["terms"] (spLLine K) := by
  have o__law_text := (o__law_text (P := P) (w := w) (base := base) W 40).mono (show 40 + 1 ≤ 59 by decide)
  obtain ⟨fd__law_text, F__law_text, b__law_text, k__law_text⟩ := o__law_text.ex
  refine okf W (d := d__law_line) 33 sc__law_line rfl rfl (fun _ _ _ _ _ _ us hl => match us, hl with | [_], _ => rfl) ?len (fun cdv A outer s H vs Q E hr nd hu tk po h => ?body)
  case len =>
    rintro vs H Q E ⟨_, _, _, rfl, _⟩
    rfl
  case body =>
    refine ⟨_, (pss_cons (ps_set (i := 1) nd rfl (by first | exact Or.inl rfl | exact Or.inr rfl) pe_dnewK)
    (pss_cons (ps_for po rfl (pi_any (pv 0)) (pg_name (i := 2) nd rfl (by first | exact Or.inl rfl | exact Or.inr rfl))
      (pss_one (ps_dput hu (pv 1) (by exact (pe_callS F__law_text (hr.mono (by first | decide | omega)) rfl (W.glo 51) k__law_text b__law_text (fun σ => passAt tk σ) (by exact (pa_cons (pv 2) pa_nil)))) (pv 2) rfl)))
    (pss_one (ps_ret (pe_callTy call_tuple_of (by rfl) (W.free 14) (by decide +kernel) (pa_cons (pe_lc (own := [("text", 3)]) (g := (gName 3)) (tt := tYes) rfl nd (pi_list (pe_callB (call_sortedLX hr.units) (by rfl) (W.free 23) (by decide +kernel) (pa_cons (pe_callTy (call_listD rfl) (by rfl) (W.free 21) (by decide +kernel) (pa_cons (pv 1) pa_nil)) pa_nil))) (blkOk_by (own := [("text", 3)]) (N := ["terms", "found", "term", "text"]) (sc := defScope s__law_line) (by decide +kernel)) (fun _ _ _ _ _ => (pg_name (i := 3) nd rfl (by first | exact Or.inl rfl | exact Or.inr rfl))) (fun _ _ _ _ _ => pts_nil) (fun _ _ _ _ _ => (pe_dget hu (pv 1) (pv 3) (fun _ _ => rfl)))) pa_nil)))))), ?_⟩
    obtain ⟨a, xs, ts, rfl, ha, hx, hok, hln, hq⟩ := h
    clear tk po
    have szl := sizeLine_eq
    simp only [tSeq, tNext, tAsg, gName, tRet, tRetN, tIfS, tOp, tUn, rI, rI0, rU, tTest, tB, tAnd, tOr, tNot, tAndV, tOrV, tNotV, tIf, tCons, tNil, tTup, tLst, tCall, tCallS, tMeth, tMake, tFld, sFld, tBM, tBM0, tCB, tSl, tPart, tNoPart, tDrop, tPar, tPar3, tAug, ipI, gTup, gCons, gNil, gSub, rSetL, rAppend, rPop, rIxL, rIxS, rIxT, rEq, rNe, tChain, tNever, tThen, tVar, tC, L2.start, List.map_cons, List.map_nil, List.length_cons, List.length_nil, List.replicate_succ, List.replicate_zero, List.append_nil, List.nil_append, List.cons_append, Nat.reduceAdd, Nat.reduceSub, Nat.add_zero, Nat.zero_add, Nat.sub_zero, Nat.sub_self,
  List.getElem?_cons_zero, List.getElem?_cons_succ, Option.some.injEq, exists_eq_left', exists_eq_left, exists_eq', exists_eq, exists_and_left, List.set_cons_zero, List.set_cons_succ, V.int.injEq, V.bl.injEq, V.str.injEq, V.ref.injEq, V.ty.injEq, List.cons.injEq, and_true, true_and, and_assoc, if_true, if_false, Bool.false_eq_true, reduceCtorEq, false_and, and_false, exists_false, false_or, or_false, Bool.not_true, Bool.not_false, decide_eq_true_eq, ite_true, ite_false, WE, cxOf_K, cxOf_mg, rSlS, scal, wipe, mem_low, mem_dig, mem_brk, mem_brk4, sgn_inj, Bool.decide_eq_true, HO.ins.injEq, HO.lst.injEq, HO.tup.injEq, upd_same, ne_eq, not_false_eq_true, tDNewK]
    intro Da hDa
    have hxl := hx.len
    obtain ⟨J, G, wk, hJ, hG⟩ := any_walk ha
    have s0 := Same.new (o := HO.dK []) hDa
    refine tFor_same wk (fun R hR => hJ _ _ _ _ s0 (fun R' h => ⟨_, rfl, h⟩) hR) (fun i σ H1 => ∃ y2 y3, σ = [some (V.ref a), some (V.ref Da), y2, y3] ∧ Same H H1 ∧ ∃ us, H1 Da = some (.dK (dkE (dedup (ts.take i)) us)) ∧ Trs K H1 us (dedup (ts.take i))) ⟨_, _, rfl, s0, [], upd_same, .nil⟩ (fun i σ H1 _ h => hG H1 (by obtain ⟨_, _, _, h, _⟩ := h; exact h)) ?_ ?_
    · rintro i x σ H1 H2 hi ⟨y2, y3, rfl, s1, us, hd1, hu1⟩ ⟨rfl, hxi⟩
      obtain ⟨t, ht, hv⟩ := hx.get hxi
      have tok := hok t (List.mem_of_getElem? ht)
      have tt := tok.tm
      simp only [tSeq, tNext, tAsg, gName, tRet, tRetN, tIfS, tOp, tUn, rI, rI0, rU, tTest, tB, tAnd, tOr, tNot, tAndV, tOrV, tNotV, tIf, tCons, tNil, tTup, tLst, tCall, tCallS, tMeth, tMake, tFld, sFld, tBM, tBM0, tCB, tSl, tPart, tNoPart, tDrop, tPar, tPar3, tAug, ipI, gTup, gCons, gNil, gSub, rSetL, rAppend, rPop, rIxL, rIxS, rIxT, rEq, rNe, tChain, tNever, tThen, tVar, tC, L2.start, List.map_cons, List.map_nil, List.length_cons, List.length_nil, List.replicate_succ, List.replicate_zero, List.append_nil, List.nil_append, List.cons_append, Nat.reduceAdd, Nat.reduceSub, Nat.add_zero, Nat.zero_add, Nat.sub_zero, Nat.sub_self,
  List.getElem?_cons_zero, List.getElem?_cons_succ, Option.some.injEq, exists_eq_left', exists_eq_left, exists_eq', exists_eq, exists_and_left, List.set_cons_zero, List.set_cons_succ, V.int.injEq, V.bl.injEq, V.str.injEq, V.ref.injEq, V.ty.injEq, List.cons.injEq, and_true, true_and, and_assoc, if_true, if_false, Bool.false_eq_true, reduceCtorEq, false_and, and_false, exists_false, false_or, or_false, Bool.not_true, Bool.not_false, decide_eq_true_eq, ite_true, ite_false, WE, cxOf_K, cxOf_mg, rSlS, scal, wipe, mem_low, mem_dig, mem_brk, mem_brk4, sgn_inj, Bool.decide_eq_true, HO.ins.injEq, HO.lst.injEq, HO.tup.injEq, upd_same, ne_eq, not_false_eq_true, sDPut]
      refine ⟨x, t.enc, rfl, Tr.sm s1 hv, tt.flat, by have := tt.len; omega, fun H3 s3 => ?_⟩
      have hul := hu1.len
      have hni := dedup_nodup (ts.take i)
      have dl := dedup_len (ts.take i)
      rw [List.length_take] at dl
      have hd3 := s3 _ _ hd1
      have tX : Tx H3 (upd H3 Da (HO.dK (putK (dkE (dedup (ts.take i)) us) (kE t) x))) := Tx.up hd3 noTup_d
      refine ⟨_, DPut.k hd3 (k := kE t) (by rw [dkE_len hul.symm]; omega), Same.mut (Same.trans s1 s3) hDa, ?_⟩
      rw [List.take_add_one, ht]
      show ∃ us_1, _ ∧ Trs K _ us_1 (dedup (ts.take i ++ [t]))
      by_cases hm : t ∈ dedup (ts.take i)
      · obtain ⟨j, hj, e⟩ := List.getElem_of_mem hm
        have ej : (dedup (ts.take i))[j]? = some t := by rw [List.getElem?_eq_getElem hj, e]
        refine ⟨us.set j x, ?_, ?_⟩
        · rw [upd_same, dkE_put_old _ hni hul.symm ej]
          show _ = some (HO.dK (dkE (dedup (ts.take i ++ [t])) _))
          rw [dedup_snoc, if_pos hm]
        · rw [dedup_snoc, if_pos hm]
          refine DpAll.set (d := t.enc) ((Trs.sm s3 hu1).tx tX) (Tr.tx tX (Tr.sm (Same.trans s1 s3) hv)) ?_
          rw [List.getElem?_map, ej]
          rfl
      · refine ⟨us ++ [x], ?_, ?_⟩
        · rw [upd_same, dkE_put hul.symm hm]
          show _ = some (HO.dK (dkE (dedup (ts.take i ++ [t])) _))
          rw [dedup_snoc, if_neg hm]
        · rw [dedup_snoc, if_neg hm]
          exact Trs.snoc ((Trs.sm s3 hu1).tx tX) (Tr.tx tX (Tr.sm (Same.trans s1 s3) hv))
    · rintro σ H1 ⟨y2, y3, rfl, s1, us, hd1, hu1⟩
      rw [hxl, List.take_length] at hd1 hu1
      have hul := hu1.len
      have hnd := dedup_nodup ts
      have dl := dedup_len ts
      walk_at "x"
      have hpm := ordE_map (dedup ts)
      have hol : (ordE (dedup ts)).length = (dedup ts).length := (ordE_perm (dedup ts)).length_eq
      refine tLc_made (C := fun J H2 zs => ∃ p, J = Itl K p ∧ Same H1 H2 ∧ H2 p = some (.lst zs) ∧ zs = (ordE (dedup ts)).map fun t => V.str (sE t)) (fun R hR => ?_) ?_
      · simp only [iList]
        walk_at "x"
        refine ⟨_, .inl hd1, fun p1 hp1 => ?_⟩
        have e1 : (dkE (dedup ts) us).map (fun kv => kV kv.1) = ((dedup ts).map sE).map V.str := by
          have := dkE_keys hul.symm
          have e2 : (dkE (dedup ts) us).map (fun kv => kV kv.1) = ((dkE (dedup ts) us).map (·.1)).map kV := by rw [List.map_map]; rfl
          rw [e2, this, List.map_map]
          rfl
        rw [e1]
        refine ⟨p1, (dedup ts).map sE, rfl, SqL.of upd_same, by rw [List.length_map]; omega, fun p2 hp2 => ⟨p2, rfl, ⟨_, SqL.of upd_same⟩, ?_⟩⟩
        refine hR _ _ _ ⟨p2, rfl, Same.trans (Same.new hp1) (Same.new hp2), upd_same, ?_⟩
        rw [← hpm, List.map_map]
        rfl
      rintro J H2 zs ⟨p, rfl, s2, hp2, rfl⟩
      have hd2 := s2 _ _ hd1
      have hu2 := Trs.sm s2 hu1
      refine tLc_map (walk_list (K := K) (a := p) (xs := (ordE (dedup ts)).map fun t => V.str (sE t))) (by rw [List.length_map]; omega) (fun R hR => hR) (fun H' s => SqL.of (s _ _ hp2)) (fun _ => rfl) (fun i H y => ∃ t, (ordE (dedup ts))[i]? = some t ∧ Tr K H y t) (fun _ _ _ _ s h => by obtain ⟨t, h1, h2⟩ := h; exact ⟨t, h1, Tr.tx s h2⟩) ?_ ?_
      · intro i z H3 R hi hz s3 hR
        rw [List.getElem?_map] at hz
        obtain ⟨t, ht, rfl⟩ := Option.map_eq_some_iff.mp hz
        have htm : t ∈ dedup ts := (ordE_perm _).mem_iff.mp (List.mem_of_getElem? ht)
        obtain ⟨j, hj, ej⟩ := List.getElem_of_mem htm
        have ej' : (dedup ts)[j]? = some t := by rw [List.getElem?_eq_getElem hj, ej]
        obtain ⟨v, hv, hvt⟩ := (Trs.sm s3 hu2).at ej'
        have hg : valV (dkE (dedup ts) us) (kE t) = some v := dkE_some hnd ej' hv
        simp only [tDGet]
        walk_at "x"
        exact ⟨v, by rw [← hg]; exact DGet.k (s3 _ _ hd2) (k := kE t), hR v _ (Same.refl _) ⟨t, ht, hvt⟩⟩
      · intro D ys H3 s3 hD hys hyl hall
        rw [List.length_map] at hyl
        have s13 := Same.trans s1 (Same.trans s2 s3)
        have hys' : Trs K H3 ys (ordE (dedup ts)) := Trs.of_get hyl fun i y t h1 h2 => by
          obtain ⟨q, h3, h4⟩ := hall i y h1
          rw [h2] at h3
          cases h3
          exact h4
        refine ⟨D, rfl, ys, .inl ⟨SqL.of hys, fun l hl => ?_⟩⟩
        have s4 := Same.new (o := HO.tup ys) hl
        exact hq l ys _ (Same.trans s13 s4) (Same.none s13 hl) upd_same (Trs.sm s4 hys')
end
end WW

set_option maxHeartbeats 4000000
namespace WW
open PySem PySem.Spec PyProof.Rows L2
local macro_rules | `(tactic| walk_at "x") => `(tactic| simp only [tSeq, tNext, tAsg, gName, tRet, tRetN, tIfS, tOp, tUn, rI, rI0, rU, tTest, tB, tAnd, tOr, tNot, tAndV, tOrV, tNotV, tIf, tCons, tNil, tTup, tLst, tCall, tCallS, tMeth, tMake, tFld, sFld, tBM, tBM0, tCB, tSl, tPart, tNoPart, tDrop, tPar, tPar3, tAug, ipI, gTup, gCons, gNil, gSub, rSetL, rAppend, rPop, rIxL, rIxS, rIxT, rEq, rNe, tChain, tNever, tThen, tVar, tC, L2.start, List.map_cons, List.map_nil, List.length_cons, List.length_nil, List.replicate_succ, List.replicate_zero, List.append_nil, List.nil_append, List.cons_append, Nat.reduceAdd, Nat.reduceSub, Nat.add_zero, Nat.zero_add, Nat.sub_zero, Nat.sub_self,
  List.getElem?_cons_zero, List.getElem?_cons_succ, Option.some.injEq, exists_eq_left', exists_eq_left, exists_eq', exists_eq, exists_and_left, List.set_cons_zero, List.set_cons_succ, V.int.injEq, V.bl.injEq, V.str.injEq, V.ref.injEq, V.ty.injEq, List.cons.injEq, and_true, true_and, and_assoc, if_true, if_false, Bool.false_eq_true, reduceCtorEq, false_and, and_false, exists_false, false_or, or_false, Bool.not_true, Bool.not_false, decide_eq_true_eq, ite_true, ite_false, WE, cxOf_K, cxOf_mg, rSlS, scal, wipe, mem_low, mem_dig, mem_brk, mem_brk4, sgn_inj, Bool.decide_eq_true])

/-- the list F of terms that holds just what is P -/
structure FL (K : PySem.W.Frag) (H H1 : Hp) (F : Addr) (n : Nat) (P : Te → Prop) : Prop where
  sm : Same H H1
  bf : H F = none
  ex : ∃ fv ms, H1 F = some (.lst fv) ∧ Trs K H1 fv ms ∧ fv.length ≤ n ∧ (∀ m ∈ ms, m.ok) ∧ ∀ m, m ∈ ms ↔ P m
theorem FL.add {K : PySem.W.Frag} {H H1 : Hp} {F : Addr} {n : Nat} {P P' : Te → Prop} (g : FL K H H1 F n P) {x : V} {a : Te} (hx : Tr K H1 x a) (aok : a.ok) (hn : n < 1000000) (hP : ∀ m, P' m ↔ P m ∨ m = a) : ∃ fv, H1 F = some (.lst fv) ∧ fv.length < sizeLine ∧ FL K H (upd H1 F (.lst (fv ++ [x]))) F (n + 1) P' := by
  obtain ⟨sm, bf, fv, ms, h1, h2, h3, h4, h5⟩ := g
  have szl := sizeLine_eq
  have tX : Tx H1 (upd H1 F (.lst (fv ++ [x]))) := Tx.up h1 noTup_l
  refine ⟨fv, h1, by omega, Same.mut sm bf, bf, fv ++ [x], ms ++ [a], upd_same, Trs.snoc (h2.tx tX) (Tr.tx tX hx), by simp; omega, fun m hm => ?_, fun m => ?_⟩
  · rcases List.mem_append.mp hm with hm | hm
    · exact h4 m hm
    · rw [List.mem_singleton.mp hm]; exact aok
  · rw [List.mem_append, List.mem_singleton, h5, hP]
theorem FL.same {K : PySem.W.Frag} {H H1 H2 : Hp} {F : Addr} {n : Nat} {P : Te → Prop} (g : FL K H H1 F n P) (s : Same H1 H2) : FL K H H2 F n P := by
  obtain ⟨sm, bf, fv, ms, h1, h2, h3, h4, h5⟩ := g
  exact ⟨Same.trans sm s, bf, fv, ms, s _ _ h1, Trs.sm s h2, h3, h4, h5⟩
theorem FL.up {K : PySem.W.Frag} {H H1 : Hp} {F : Addr} {n n' : Nat} {P P' : Te → Prop} (g : FL K H H1 F n P) (h : n ≤ n') (hP : ∀ m, P' m ↔ P m) : FL K H H1 F n' P' := by
  obtain ⟨sm, bf, fv, ms, h1, h2, h3, h4, h5⟩ := g
  exact ⟨sm, bf, fv, ms, h1, h2, by omega, h4, fun m => by rw [h5, hP]⟩
theorem FL.at {K : PySem.W.Frag} {H H1 : Hp} {F : Addr} {n : Nat} {P : Te → Prop} (g : FL K H H1 F n P) : ∃ fv, H1 F = some (.lst fv) := by
  obtain ⟨_, _, fv, _, h1, _⟩ := g
  exact ⟨fv, h1⟩
theorem ls_yes : ∀ w ∈ ["lock", "shut"], ((["lock", "shut"].map Str.ofString).any fun u => decide (u = Str.ofString w)) = true := by decide +kernel
theorem ls_no : ∀ w ∈ ["name", "new", "own", "var", "pair", "seal", "print", "pub"], ((["lock", "shut"].map Str.ofString).any fun u => decide (u = Str.ofString w)) = false := by decide +kernel
theorem key_word {t q : Te} (h : t.key = some q) : t.word ∈ ["lock", "shut"] := by cases t <;> simp [Te.key] at h <;> simp [Te.word]
theorem nokey_word {t : Te} (h : t.key = none) : t.word ∈ ["name", "new", "own", "var", "pair", "seal", "print", "pub"] := by cases t <;> simp [Te.key] at h <;> simp [Te.word]
def nInv (K : PySem.W.Frag) (H : Hp) (e h : Addr) (n : Nat) (P : Te → Prop) (σ : L2.St) (H1 : Hp) : Prop := ∃ F y3 y4, σ = [some (.ref e), some (.ref h), some (.ref F), y3, y4] ∧ FL K H H1 F n P
def nInv3 (K : PySem.W.Frag) (H : Hp) (e h : Addr) (x : V) (n : Nat) (P : Te → Prop) (σ : L2.St) (H1 : Hp) : Prop := ∃ F y4, σ = [some (.ref e), some (.ref h), some (.ref F), some x, y4] ∧ FL K H H1 F n P
section
variable {P : Program} {w : World} {K : PySem.W.Frag} {mg : Str → Option Value} {base : Heap}
theorem o__law_next (W : Wd fa fn K mg) : OkF P w K mg base d__law_next 2 ["every", "held"] (spLNext K) := by
  have o__law_parts := (o__law_parts (P := P) (w := w) (base := base) W)
  have o__law_opens := (o__law_opens (P := P) (w := w) (base := base) W)
  obtain ⟨fd__law_opens, F__law_opens, b__law_opens, k__law_opens⟩ := o__law_opens.ex; obtain ⟨fd__law_parts, F__law_parts, b__law_parts, k__law_parts⟩ := o__law_parts.ex
  refine okf W (d := d__law_next) 35 sc__law_next rfl rfl (fun _ _ _ _ _ _ us hl => match us, hl with | [_, _], _ => rfl) ?len (fun cdv A outer s H vs Q E hr nd hu tk po h => ?body)
  case len =>
    rintro vs H Q E ⟨_, _, _, _, _, _, rfl, _⟩
    rfl
  case body =>
    refine ⟨_, (pss_cons (ps_set (i := 2) nd rfl (by first | exact Or.inl rfl | exact Or.inr rfl) (pe_lst pa_nil))
    (pss_cons (ps_for po rfl (pi_list (pv 1)) (pg_name (i := 3) nd rfl (by first | exact Or.inl rfl | exact Or.inr rfl))
      (Evl.pss_cut (ps_if (pt_cmpR op_eq (pe_ix ix_tup (pv 3) pe_int (fun _ _ => rfl)) pe_str (nomark _)) (pss_one (ps_set (i := 2) nd rfl (by first | exact Or.inl rfl | exact Or.inr rfl) (pe_op op_cat (pv 2) (pe_lst (pa_cons (pe_ix ix_tup (pv 3) pe_int (fun _ _ => rfl)) (pa_cons (pe_ix ix_tup (pv 3) pe_int (fun _ _ => rfl)) pa_nil)))))) pss_nil)
    (pss_one (ps_if (PW.pt (pw_or (pt_cmpR op_eq (pe_ix ix_tup (pv 3) pe_int (fun _ _ => rfl)) pe_str (nomark _)) (pw_or1 (PW.pt (pw_and (pt_cmpR op_in_seq (pe_ix ix_tup (pv 3) pe_int (fun _ _ => rfl)) (pe_lst (pa_cons pe_str (pa_cons pe_str pa_nil))) (by rfl)) (pw_and1 (pt_cmpR (op_inT hr.units) (by exact (pe_callS F__law_opens (hr.mono (by first | decide | omega)) rfl (W.glo 52) k__law_opens b__law_opens (fun σ => passAt tk σ) (by exact (pa_cons (pv 3) pa_nil)))) (pv 1) (by rfl)))))))) (pss_one (ps_expr (pe_bm PySem.F.plainAttrs_list PySem.F.slot_list_append PySem.F.type_list_append mt_append (pv 2) (pa_cons (pe_ix ix_tup (pv 3) pe_int (fun _ _ => rfl)) pa_nil)))) pss_nil))))
    (pss_cons (ps_for po rfl (pi_list (pv 0)) (pg_name (i := 3) nd rfl (by first | exact Or.inl rfl | exact Or.inr rfl))
      (pss_one (ps_if (PW.pt (pw_or (pt_cmpR op_eq (pe_ix ix_tup (pv 3) pe_int (fun _ _ => rfl)) pe_str (nomark _)) (pw_or1 (PW.pt (pw_and (pt_cmpR (op_neW hr.units) (by exact (pe_callS F__law_parts (hr.mono (by first | decide | omega)) rfl (W.glo 50) k__law_parts b__law_parts (fun σ => passAt tk σ) (by exact (pa_cons (pv 3) pa_nil)))) (pe_lst pa_nil) (nomark _)) (pw_and1 (pt_val (pe_callB (cr_all rfl) (by rfl) (W.free 3) (by decide +kernel) (pa_cons (pe_lc (own := [("part", 4)]) (g := (gName 4)) (tt := tYes) rfl nd (pi_list (by exact (pe_callS F__law_parts (hr.mono (by first | decide | omega)) rfl (W.glo 50) k__law_parts b__law_parts (fun σ => passAt tk σ) (by exact (pa_cons (pv 3) pa_nil))))) (blkOk_by (own := [("part", 4)]) (N := ["every", "held", "found", "term", "part"]) (sc := defScope s__law_next) (by decide +kernel)) (fun _ _ _ _ _ => (pg_name (i := 4) nd rfl (by first | exact Or.inl rfl | exact Or.inr rfl))) (fun _ _ _ _ _ => pts_nil) (fun _ _ _ _ _ => (pe_cmpR (kOp (K := K) (r := rInT) rfl (op_inT hr.units)) (pv 4) (pv 1) (by rfl)))) pa_nil))))))))) (pss_one (ps_expr (pe_bm PySem.F.plainAttrs_list PySem.F.slot_list_append PySem.F.type_list_append mt_append (pv 2) (pa_cons (pv 3) pa_nil)))) pss_nil)))
    (pss_one (ps_ret (pe_lc (own := [("term", 3)]) (g := (gName 3)) rfl nd (pi_list (pv 2)) (blkOk_by (own := [("term", 3)]) (N := ["every", "held", "found", "term", "part"]) (sc := defScope s__law_next) (by decide +kernel)) (fun _ _ _ _ _ => (pg_name (i := 3) nd rfl (by first | exact Or.inl rfl | exact Or.inr rfl))) (fun _ _ _ _ _ => (pts_one (pt_cmpR (kOp (K := K) (r := rNotInT) rfl (op_notInT hr.units)) (pv 3) (pv 1) (by rfl)))) (fun _ _ _ _ _ => (pv 3)))))))), ?_⟩
    obtain ⟨e, evs, ev, h, hvs, hd, rfl, he, hev, oke, hel, hh, hhv, okh, hhl, hq⟩ := h
    clear tk po
    have szl := sizeLine_eq
    walk_at "x"
    refine ⟨by decide, fun F hF => ?_⟩
    have hhvl := hhv.len
    have hevl := hev.len
    have sF := Same.new (o := HO.lst []) hF
    refine tFor_same (walk_list (K := K) (a := h) (xs := hvs)) (fun R hR => ⟨_, rfl, h, rfl, ⟨_, SqL.of (sF _ _ hh)⟩, hR⟩) (fun i σ H1 => nInv K H e h (3 * i) (fun m => ∃ u ∈ hd.take i, takes (fun t => t ∈ hd) u m) σ H1) ⟨F, _, _, rfl, sF, hF, [], [], upd_same, .nil, by simp, (fun _ h => nomatch h), by simp⟩ (fun i σ H1 _ g => by obtain ⟨_, _, _, _, g⟩ := g; exact SqL.of (g.sm _ _ hh)) ?_ ?_
    · rintro i x σ H1 H2 hi ⟨F, y3, y4, rfl, s1, bF, fv, ms, hF1, hfv, hfl, okm, hP⟩ ⟨rfl, hxi⟩
      obtain ⟨t, ht, hv⟩ := hhv.get hxi
      have tok := okh t (List.mem_of_getElem? ht)
      have hvt := Tr.sm s1 hv
      obtain ⟨p, us, rfl, h1, h2⟩ := hvt.view
      have hPi : ∀ m, (∃ u ∈ hd.take (i + 1), takes (fun t => t ∈ hd) u m) ↔ (∃ u ∈ hd.take i, takes (fun t => t ∈ hd) u m) ∨ takes (fun t => t ∈ hd) t m := by
        intro m
        rw [List.take_add_one, ht]
        simp only [Option.toList, List.mem_append, List.mem_singleton]
        constructor
        · rintro ⟨u, hu | rfl, hm⟩
          · exact .inl ⟨u, hu, hm⟩
          · exact .inr hm
        · rintro (⟨u, hu, hm⟩ | hm)
          · exact ⟨u, .inl hu, hm⟩
          · exact ⟨t, .inr rfl, hm⟩
      refine cut_of (fun σ H' => nInv3 K H e h (.ref p) (3 * i + 2) (fun m => (∃ u ∈ hd.take i, takes (fun t => t ∈ hd) u m) ∨ ((∃ a b, t = .pair a b) ∧ takes (fun t => t ∈ hd) t m)) σ H') ?_ ?_
      · walk_at "x"
        refine ⟨_, h1, _, atI_nat (j := 0) rfl, rfl, ?_⟩
        by_cases c1 : t.word = "pair"
        · rw [if_pos (wY c1)]
          obtain ⟨a, b, rfl⟩ : ∃ a b, t = .pair a b := by cases t <;> simp [Te.word] at c1; exact ⟨_, _, rfl⟩
          obtain ⟨u, v, rfl, hu, hv'⟩ := Trs2 (h2 (by simp [Te.parts]))
          refine ⟨_, h1, _, atI_nat (j := 1) rfl, _, h1, _, atI_nat (j := 2) rfl, by decide, fun q hq' => ?_⟩
          have s2 := Same.new (o := HO.lst [u, v]) hq'
          refine ⟨F, q, _, _, rfl, rfl, s2 _ _ hF1, upd_same, by simp; omega, fun F2 hF2 => ?_⟩
          have s3 := Same.trans s2 (Same.new (o := HO.lst (fv ++ [u, v])) hF2)
          refine ⟨F2, _, rfl, Same.trans s1 s3, Same.none (Same.trans s1 s2) hF2, fv ++ [u, v], ms ++ [a, b], upd_same, Trs.app (Trs.sm s3 hfv) (.cons (Tr.sm s3 hu) (.cons (Tr.sm s3 hv') .nil)), by simp; omega, fun m hm => ?_, fun m => ?_⟩
          · rcases List.mem_append.mp hm with hm | hm
            · exact okm m hm
            · exact tok.part hm
          · rw [List.mem_append, hP]
            simp [takes]
        · rw [if_neg (wN c1)]
          refine ⟨F, _, rfl, s1, bF, fv, ms, hF1, hfv, by omega, okm, fun m => ?_⟩
          rw [hP]
          constructor
          · exact fun q => .inl q
          · rintro (q | ⟨⟨a, b, rfl⟩, _⟩)
            · exact q
            · exact absurd rfl c1
      · clear hF1 hfv hP hfl okm fv ms s1 bF F hvt h1 h2 us
        rintro σ H1 ⟨F, y4, rfl, s1, bF, fv, ms, hF1, hfv, hfl, okm, hP⟩
        have hvt := Tr.sm s1 hv
        obtain ⟨p', us, e', h1, h2⟩ := hvt.view
        cases e'
        walk_at "x"
        refine ⟨_, h1, _, atI_nat (j := 0) rfl, rfl, ?_⟩
        have g1 : FL K H H1 F (3 * i + 2) (fun m => (∃ u ∈ hd.take i, takes (fun t => t ∈ hd) u m) ∨ ((∃ a b, t = .pair a b) ∧ takes (fun t => t ∈ hd) t m)) := ⟨s1, bF, fv, ms, hF1, hfv, hfl, okm, hP⟩
        by_cases c2 : t.word = "seal"
        · rw [if_pos (wY c2)]
          obtain ⟨a, b, rfl⟩ : ∃ a b, t = .sea a b := by cases t <;> simp [Te.word] at c2; exact ⟨_, _, rfl⟩
          obtain ⟨u, v, rfl, hu, hv'⟩ := Trs2 (h2 (by simp [Te.parts]))
          obtain ⟨fv2, k1, k2, k3⟩ := g1.add (P' := fun m => ∃ u ∈ hd.take (i + 1), takes (fun t => t ∈ hd) u m) hu (tok.part (by simp [Te.parts])) (by omega) (fun m => by rw [hPi]; simp [takes])
          exact ⟨tyLst hF1, _, h1, _, atI_nat (j := 1) rfl, fv2, k1, k2, F, _, _, rfl, k3.up (by omega) (fun _ => Iff.rfl)⟩
        · rw [if_neg (wN c2)]
          refine ⟨_, h1, _, atI_nat (j := 0) rfl, by decide, fun q hq' => ?_⟩
          have s2 := Same.new (o := HO.lst [V.str (Str.ofString "lock"), V.str (Str.ofString "shut")]) hq'
          have g2 := g1.same s2
          cases hk : t.key with
          | none =>
            refine rIn_lit (ss := ["lock", "shut"].map Str.ofString) (.l upd_same) rfl false (ls_no _ (nokey_word hk)) ⟨_, rfl, iteF ⟨F, _, _, rfl, g2.up (by omega) fun m => ?_⟩⟩
            rw [hPi]
            constructor
            · rintro (h | h)
              · exact .inl h
              · refine .inr ⟨?_, h⟩
                cases t <;> first | (simp [Te.key] at hk; done) | exact absurd rfl c2 | exact ⟨_, _, rfl⟩ | simp [takes] at h
            · rintro (h | ⟨_, h⟩)
              · exact .inl h
              · exact .inr h
          | some kk =>
            refine rIn_lit (ss := ["lock", "shut"].map Str.ofString) (.l upd_same) rfl true (ls_yes _ (key_word hk)) ⟨_, rfl, iteT ?_⟩
            have kok := key_ok hk tok
            refine ⟨_, t.enc, rfl, Tr.sm s2 hvt, by rw [partsD_enc]; rfl, lay_enc t, ?_⟩
            rw [keyD_enc, hk]
            intro z hz
            obtain ⟨a, b, hpq, htk, hnp⟩ : ∃ a b, t.parts = [a, b] ∧ (∀ m, takes (fun t => t ∈ hd) t m ↔ m = a ∧ kk ∈ hd) ∧ ¬ ∃ a b, t = .pair a b := by
              cases t <;> simp [Te.key] at hk <;> (subst hk; exact ⟨_, _, rfl, fun m => Iff.rfl, by simp⟩)
            obtain ⟨u, v, rfl, hu, hv'⟩ := Trs2 (hpq ▸ h2 (by rw [hpq]; simp))
            refine ⟨kk, hd, h, hvs, rfl, .l (s2 _ _ (s1 _ _ hh)), Trs.sm (Same.trans s1 s2) hhv, hz, kok, _, rfl, ?_⟩
            by_cases hkh : kk ∈ hd
            · rw [decide_eq_true hkh]
              obtain ⟨fv2, k1, k2, k3⟩ := g2.add (P' := fun m => ∃ u ∈ hd.take (i + 1), takes (fun t => t ∈ hd) u m) (Tr.sm s2 hu) (tok.part (by rw [hpq]; simp)) (by omega) (fun m => by rw [hPi, htk]; simp [hnp, hkh])
              exact iteT ⟨tyLst (s2 _ _ hF1), _, (Tx.of s2).sqt h1, _, atI_nat (j := 1) rfl, fv2, k1, k2, F, _, _, rfl, k3.up (by omega) (fun _ => Iff.rfl)⟩
            · rw [decide_eq_false hkh]
              refine iteF ⟨F, _, _, rfl, g2.up (by omega) fun m => ?_⟩
              rw [hPi, htk]
              simp [hnp, hkh]
    · rintro σ H1 ⟨F, y3, y4, rfl, g1⟩
      dsimp only
      refine seq_of ?_
      have he1 := g1.sm _ _ he
      rw [hhvl, List.take_length] at g1
      refine tFor_same (walk_list (K := K) (a := e) (xs := evs)) (fun R hR => ⟨_, rfl, e, rfl, ⟨_, SqL.of he1⟩, hR⟩) (fun i σ H1 => nInv K H e h (3 * hd.length + i) (fun m => (∃ u ∈ hd, takes (fun t => t ∈ hd) u m) ∨ (m ∈ ev.take i ∧ makes (fun t => t ∈ hd) m)) σ H1) ⟨F, _, _, rfl, g1.up (Nat.le_refl _) (by simp)⟩ (fun i σ H1 _ g => by obtain ⟨_, _, _, _, g⟩ := g; exact SqL.of (g.sm _ _ he)) ?_ ?_
      · rintro i x σ H1 H2 hi ⟨F, y3, y4, rfl, g1⟩ ⟨rfl, hxi⟩
        obtain ⟨t, ht, hv⟩ := hev.get hxi
        have tok := oke t (List.mem_of_getElem? ht)
        have hvt := Tr.sm g1.sm hv
        obtain ⟨fv, hF1⟩ := g1.at
        obtain ⟨p, us, rfl, h1, h2⟩ := hvt.view
        have hPi : ∀ m, (m ∈ ev.take (i + 1) ∧ makes (fun t => t ∈ hd) m) ↔ (m ∈ ev.take i ∧ makes (fun t => t ∈ hd) m) ∨ (m = t ∧ makes (fun t => t ∈ hd) t) := by
          intro m
          rw [List.take_add_one, ht]
          simp only [Option.toList, List.mem_append, List.mem_singleton]
          constructor
          · rintro ⟨hu | rfl, hm⟩
            · exact .inl ⟨hu, hm⟩
            · exact .inr ⟨rfl, hm⟩
          · rintro (⟨hu, hm⟩ | ⟨rfl, hm⟩)
            · exact ⟨.inl hu, hm⟩
            · exact ⟨.inr rfl, hm⟩
        walk_at "x"
        refine ⟨_, h1, _, atI_nat (j := 0) rfl, rfl, ?_⟩
        have addY : ∀ (H3 : Hp), Same H2 H3 → makes (fun t => t ∈ hd) t → ∃ fv2, H3 F = some (.lst fv2) ∧ fv2.length < sizeLine ∧ nInv K H e h (3 * hd.length + (i + 1)) (fun m => (∃ u, u ∈ hd ∧ takes (fun t => t ∈ hd) u m) ∨ m ∈ ev.take (i + 1) ∧ makes (fun t => t ∈ hd) m) [some (V.ref e), some (V.ref h), some (V.ref F), some (V.ref p), y4] (upd H3 F (HO.lst (fv2 ++ [V.ref p]))) := by
          intro H3 s3 hmk
          obtain ⟨fv2, k1, k2, k3⟩ := (g1.same s3).add (P' := fun m => (∃ u, u ∈ hd ∧ takes (fun t => t ∈ hd) u m) ∨ m ∈ ev.take (i + 1) ∧ makes (fun t => t ∈ hd) m) (Tr.sm s3 hvt) tok (by omega) (fun m => by rw [hPi]; simp [hmk, or_assoc])
          exact ⟨fv2, k1, k2, F, _, _, rfl, k3⟩
        have addN : ∀ (H3 : Hp), Same H2 H3 → ¬ makes (fun t => t ∈ hd) t → nInv K H e h (3 * hd.length + (i + 1)) (fun m => (∃ u, u ∈ hd ∧ takes (fun t => t ∈ hd) u m) ∨ m ∈ ev.take (i + 1) ∧ makes (fun t => t ∈ hd) m) [some (V.ref e), some (V.ref h), some (V.ref F), some (V.ref p), y4] H3 := by
          intro H3 s3 hmk
          exact ⟨F, _, _, rfl, (g1.same s3).up (by omega) fun m => by rw [hPi]; simp [hmk]⟩
        by_cases c1 : t.word = "own"
        · rw [if_pos (wY c1)]
          exact ⟨tyLst hF1, addY H2 (Same.refl _) (.inl (by cases t <;> simp [Te.word] at c1; rfl))⟩
        · rw [if_neg (wN c1)]
          have hno : t ≠ .own := fun e => c1 (by rw [e]; rfl)
          refine ⟨_, t, rfl, hvt, fun q us3 H3 s3 hq0 hq3 hus3 => ⟨by decide, fun q2 hq2 => ?_⟩⟩
          have s4' := Same.new (o := HO.lst []) hq2
          have s4 := Same.trans s3 s4'
          refine rNeTs (SqL.of (s4' _ _ hq3)) (SqL.of upd_same) (Trs.sm s4' hus3) .nil (fun p hp => tok.part hp) ⟨_, rfl, ?_⟩
          by_cases c2 : t.parts = []
          · rw [decide_eq_true c2]
            refine iteF (addN _ s4 fun hm => ?_)
            rcases hm with hm | hm
            · exact hno hm
            · exact hm.1 c2
          · rw [decide_eq_false c2]
            refine iteT ?_
            have hpl : t.parts.length ≤ 2 := by cases t <;> simp [Te.parts]
            refine tLc_made (C := NewTs K (upd H3 q2 (HO.lst [])) t.parts) (fun R hR => ?_) ?_
            · exact ⟨_, rfl, _, t, rfl, Tr.sm s4 hvt, fun q5 us5 H5 s5 hq5 hq5' hus5 => ⟨q5, rfl, ⟨_, SqL.of hq5'⟩, hR _ _ _ ⟨q5, rfl, s5, hq5', hus5⟩⟩⟩
            rintro J H5 us5 ⟨q5, rfl, s5, hq5, hus5⟩
            have s25 := Same.trans s4 s5
            have hul5 := hus5.len
            have hh5 := s25 _ _ (g1.sm _ _ hh)
            have hhv5 := Trs.sm s25 (Trs.sm g1.sm hhv)
            refine tAllT (walk_list (K := K) (a := q5) (xs := us5)) (by omega) hus5 (fun R hR => hR) (fun H' s => SqL.of (s _ _ hq5)) (fun _ => rfl) (fun m => decide (m ∈ hd)) ?_ ?_
            · intro m y H6 R hm hy s6 hR
              walk_at "x"
              exact ⟨m, hd, h, hvs, rfl, .l (s6 _ _ hh5), Trs.sm s6 hhv5, hy, tok.part hm, hR H6 (Same.refl _)⟩
            · intro H6 s6
              have s26 := Same.trans s25 s6
              refine ⟨_, rfl, ?_⟩
              by_cases hm : ∀ m ∈ t.parts, m ∈ hd
              · rw [List.all_eq_true.mpr (fun m h => decide_eq_true (hm m h))]
                exact iteT ⟨tyLst (s26 _ _ hF1), addY H6 s26 (.inr ⟨c2, hm⟩)⟩
              · have e : (t.parts.all fun m => decide (m ∈ hd)) = false := by
                  rw [Bool.eq_false_iff]
                  intro h
                  exact hm fun m hm => of_decide_eq_true (List.all_eq_true.mp h m hm)
                rw [e]
                refine iteF (addN H6 s26 fun h => ?_)
                rcases h with h | h
                · exact hno h
                · exact hm h.2
      · rintro σ H1 ⟨F, y3, y4, rfl, g1⟩
        walk_at "x"
        rw [hevl, List.take_length] at g1
        obtain ⟨s1, bF, fv, ms, hF1, hfv, hfl, okm, hP⟩ := g1
        refine tLc_filt (walk_list (K := K) (a := F) (xs := fv)) (by omega) hfv (fun R hR => ⟨_, rfl, F, rfl, ⟨_, SqL.of hF1⟩, hR⟩) (fun H' s => SqL.of (s _ _ hF1)) (fun _ => rfl) (fun _ => rfl) (fun m => !decide (m ∈ hd)) ?_ ?_
        · intro m y H2 R hm hy s2 hR
          walk_at "x"
          exact ⟨m, hd, h, hvs, rfl, .l (s2 _ _ (s1 _ _ hh)), Trs.sm (Same.trans s1 s2) hhv, hy, okm m hm, _, rfl, hR H2 (Same.refl _)⟩
        · intro D ys H2 s2 hD hys hyt
          refine hq D ys _ H2 (Same.trans s1 s2) (Same.none s1 hD) hys hyt (fun m => ?_) (by have := List.length_filter_le (fun m => !decide (m ∈ hd)) ms; have := hfv.len; omega)
          rw [List.mem_filter, hP]
          simp only [Bool.not_eq_true', decide_eq_false_iff_not]
          exact ⟨fun ⟨a, b⟩ => ⟨b, a⟩, fun ⟨a, b⟩ => ⟨b, a⟩⟩
end
end WW

set_option maxHeartbeats 4000000
namespace WW
open PySem PySem.Spec PyProof.Rows L2
local macro_rules | `(tactic| walk_at "x") => `(tactic| simp only [tSeq, tNext, tAsg, gName, tRet, tRetN, tIfS, tOp, tUn, rI, rI0, rU, tTest, tB, tAnd, tOr, tNot, tAndV, tOrV, tNotV, tIf, tCons, tNil, tTup, tLst, tCall, tCallS, tMeth, tMake, tFld, sFld, tBM, tBM0, tCB, tSl, tPart, tNoPart, tDrop, tPar, tPar3, tAug, ipI, gTup, gCons, gNil, gSub, rSetL, rAppend, rPop, rIxL, rIxS, rIxT, rEq, rNe, tChain, tNever, tThen, tVar, tC, L2.start, List.map_cons, List.map_nil, List.length_cons, List.length_nil, List.replicate_succ, List.replicate_zero, List.append_nil, List.nil_append, List.cons_append, Nat.reduceAdd, Nat.reduceSub, Nat.add_zero, Nat.zero_add, Nat.sub_zero, Nat.sub_self,
  List.getElem?_cons_zero, List.getElem?_cons_succ, Option.some.injEq, exists_eq_left', exists_eq_left, exists_eq', exists_eq, exists_and_left, List.set_cons_zero, List.set_cons_succ, V.int.injEq, V.bl.injEq, V.str.injEq, V.ref.injEq, V.ty.injEq, List.cons.injEq, and_true, true_and, and_assoc, if_true, if_false, Bool.false_eq_true, reduceCtorEq, false_and, and_false, exists_false, false_or, or_false, Bool.not_true, Bool.not_false, decide_eq_true_eq, ite_true, ite_false, WE, cxOf_K, cxOf_mg, rSlS, scal, wipe, mem_low, mem_dig, mem_brk, mem_brk4, sgn_inj, Bool.decide_eq_true])

/-- the lots, round by round -/
inductive RowsI (known ev : List Te) : List (List Te) → Nat → Prop
  | base : RowsI known ev [known] 0
  | step {rws : List (List Te)} {n : Nat} {row : List Te} : RowsI known ev rws n → row ≠ [] → (∀ t, t ∈ row ↔ nxt ev (rnd known ev n) t) → RowsI known ev (rws ++ [row]) (n + 1)
def RowAt (K : PySem.W.Frag) (H : Hp) (v : V) (r : List Te) : Prop := ∃ a vs, v = .ref a ∧ H a = some (.lst vs) ∧ Trs K H vs r
structure RowsAt (K : PySem.W.Frag) (H : Hp) (rs : List V) (rws : List (List Te)) : Prop where
  ln : rs.length = rws.length
  at_ : ∀ (i : Nat) (v : V) (r : List Te), rs[i]? = some v → rws[i]? = some r → RowAt K H v r
theorem RowAt.same {K : PySem.W.Frag} {H H' : Hp} {v : V} {r : List Te} (s : Same H H') (h : RowAt K H v r) : RowAt K H' v r := by
  obtain ⟨a, vs, e, h1, h2⟩ := h
  exact ⟨a, vs, e, s _ _ h1, Trs.sm s h2⟩
theorem RowsAt.same {K : PySem.W.Frag} {H H' : Hp} {rs : List V} {rws : List (List Te)} (s : Same H H') (h : RowsAt K H rs rws) : RowsAt K H' rs rws := ⟨h.ln, fun i v r h1 h2 => (h.at_ i v r h1 h2).same s⟩
/-- the list of the rows grows -/
theorem RowsAt.snoc {K : PySem.W.Frag} {H : Hp} {R : Addr} {rs : List V} {rws : List (List Te)} {v : V} {r : List Te} (h : RowsAt K H rs rws) (hR : H R = some (.lst rs)) (ha : ∀ a, V.ref a ∈ rs ++ [v] → a ≠ R) (hv : RowAt K H v r) : RowsAt K (upd H R (.lst (rs ++ [v]))) (rs ++ [v]) (rws ++ [r]) := by
  have tX : Tx H (upd H R (.lst (rs ++ [v]))) := Tx.up hR noTup_l
  have go : ∀ {w : V} {q : List Te}, w ∈ rs ++ [v] → RowAt K H w q → RowAt K (upd H R (.lst (rs ++ [v]))) w q := by
    rintro w q hw ⟨a, vs, rfl, h1, h2⟩
    exact ⟨a, vs, rfl, by rw [upd_ne (ha a hw)]; exact h1, h2.tx tX⟩
  refine ⟨by rw [List.length_append, List.length_append, h.ln]; rfl, fun i w q h1 h2 => ?_⟩
  refine go (List.mem_of_getElem? h1) ?_
  by_cases hi : i < rs.length
  · rw [List.getElem?_append_left hi] at h1
    rw [List.getElem?_append_left (by rw [← h.ln]; exact hi)] at h2
    exact h.at_ i w q h1 h2
  · have hk := (List.getElem?_eq_some_iff.mp h1).1
    rw [List.length_append, List.length_singleton] at hk
    have e : i = rs.length := by omega
    subst e
    rw [List.getElem?_append_right (Nat.le_refl _), Nat.sub_self] at h1
    rw [h.ln, List.getElem?_append_right (Nat.le_refl _), Nat.sub_self] at h2
    simp at h1 h2
    subst h1; subst h2
    exact hv
section
variable {known ev : List Te} {rws : List (List Te)} {n : Nat}
theorem RowsI.len (h : RowsI known ev rws n) : rws.length = n + 1 := by
  induction h with
  | base => rfl
  | step _ _ _ ih => rw [List.length_append, ih]; rfl
theorem RowsI.flat (h : RowsI known ev rws n) : ∀ t, t ∈ rws.flatten ↔ rnd known ev n t := by
  induction h with
  | base => intro t; simp [rnd]
  | step _ _ hr ih =>
    intro t
    rw [List.flatten_append, List.mem_append, ih, List.flatten_cons, List.flatten_nil, List.append_nil, hr]
    rfl
theorem RowsI.at (h : RowsI known ev rws n) : ∀ (k : Nat) (row : List Te), rws[k]? = some row → ∀ t, t ∈ row ↔ rnd known ev k t ∧ ∀ j, j < k → ¬ rnd known ev j t := by
  induction h with
  | base =>
    intro k row hk t
    cases k with
    | zero => simp at hk; subst hk; simp [rnd]
    | succ k => simp at hk
  | @step rws n row hI _ hr ih =>
    intro k row' hk t
    have hl := hI.len
    by_cases hkl : k < rws.length
    · rw [List.getElem?_append_left hkl] at hk
      exact ih k row' hk t
    · have hk2 := (List.getElem?_eq_some_iff.mp hk).1
      rw [List.length_append, List.length_singleton] at hk2
      have e : k = rws.length := by omega
      subst e
      rw [List.getElem?_append_right (Nat.le_refl _), Nat.sub_self] at hk
      simp at hk
      subst hk
      rw [hr, hl]
      constructor
      · intro hx
        exact ⟨.inr hx, fun j hj hjr => hx.1 (rnd_mono (by omega) hjr)⟩
      · rintro ⟨h1 | h1, h2⟩
        · exact absurd h1 (h2 n (by omega))
        · exact h1
theorem RowsI.last (h : RowsI known ev rws n) : ∃ r0 row, rws = r0 ++ [row] ∧ (row = [] → n = 0) := by
  cases h with
  | base => exact ⟨[], known, rfl, fun _ => rfl⟩
  | step _ hne _ => exact ⟨_, _, rfl, fun e => absurd e hne⟩
end
theorem atI_end {xs : List V} {v : V} (h : xs[xs.length - 1]? = some v) : atI xs (-1) = some v := by
  have hl := (List.getElem?_eq_some_iff.mp h).1
  have e : xs = xs.dropLast ++ [v] := by
    have hne : xs ≠ [] := fun e => by rw [e] at hl; simp at hl
    have h1 := List.dropLast_concat_getLast hne
    have h2 : xs.getLast hne = v := by
      rw [List.getLast_eq_getElem]
      rw [List.getElem?_eq_getElem hl] at h
      exact Option.some.inj h
    rw [h2] at h1
    exact h1.symm
  rw [e]
  exact atI_last _ _
theorem tt_true {tt : TT} {σ : L2.St} {H : Hp} {R : Bool → Hp → Prop} (h : ∀ R' : Bool → Hp → Prop, (∀ H2, Same H H2 → R' true H2) → tt σ H R') (hr : ∀ H2, Same H H2 → R true H2) : tt σ H R := h R hr
structure ArgsL (K : PySem.W.Frag) (H : Hp) (a : Addr) (xs : List V) (known : List Te) (b : Addr) (ys : List V) (ws : List Te) : Prop where
  ha : SqT K H a xs
  hx : Trs K H xs known
  hb : H b = some (.lst ys)
  hy : Trs K H ys ws
  ok : ∀ t ∈ known ++ ws, t.ok
  kn : known.length ≤ 8
  wn : ws.length ≤ 1
  sz : sizes (known ++ ws) ≤ 400
theorem ArgsL.same {K : PySem.W.Frag} {H H' : Hp} {a : Addr} {xs : List V} {known : List Te} {b : Addr} {ys : List V} {ws : List Te} (s : Same H H') (g : ArgsL K H a xs known b ys ws) : ArgsL K H' a xs known b ys ws :=
  ⟨(Tx.of s).sqt g.ha, Trs.sm s g.hx, s _ _ g.hb, Trs.sm s g.hy, g.ok, g.kn, g.wn, g.sz⟩
def spLRounds (K : PySem.W.Frag) : Sp := fun vs H Q _ => ∃ a xs known b ys ws, vs = [.ref a, .ref b] ∧ ArgsL K H a xs known b ys ws ∧
  ∀ R rs rws n H', Same H H' → H' R = some (.lst rs) → RowsAt K H' rs rws → RowsI known (subsT (known ++ ws)) rws n → (∀ t, ¬ nxt (subsT (known ++ ws)) (rnd known (subsT (known ++ ws)) n) t) → (rws.flatten).length ≤ 500 → Q (.ref R) H'
def spLAll (K : PySem.W.Frag) : Sp := fun vs H Q _ => ∃ R rs rws, vs = [.ref R] ∧ H R = some (.lst rs) ∧ RowsAt K H rs rws ∧ (rws.flatten).length ≤ 500 ∧
  ∀ p us H', Same H H' → H p = none → H' p = some (.lst us) → Trs K H' us rws.flatten → Q (.ref p) H'
/-- the loop of the rounds -/
def kInv (K : PySem.W.Frag) (H : Hp) (a b e R : Addr) (evs : List V) (known es ev : List Te) (m : Nat) (σ : L2.St) (H1 : Hp) : Prop := ∃ rs rws n hA hvs hd tl y5 y6, σ = [some (V.ref a), some (V.ref b), some (V.ref e), some (V.ref R), some (V.ref hA), y5, y6] ∧ Same H H1 ∧ H R = none ∧ H1 e = some (.lst evs) ∧ Trs K H1 evs es ∧
  H1 R = some (.lst rs) ∧ RowsAt K H1 rs rws ∧ RowsI known ev rws n ∧ H1 hA = some (.lst hvs) ∧ Trs K H1 hvs hd ∧ hd = known ++ tl ∧ tl.Nodup ∧ (∀ t ∈ tl, t ∈ es) ∧ (∀ t, t ∈ hd ↔ rnd known ev n t) ∧ (rws.flatten).length = hd.length ∧ (∀ a, V.ref a ∈ rs → a ≠ R) ∧ hA ≠ R ∧ n ≤ tl.length ∧ m = 501 - tl.length
section
variable {P : Program} {w : World} {K : PySem.W.Frag} {mg : Str → Option Value} {base : Heap}
theorem o__law_all (W : Wd fa fn K mg) : OkF P w K mg base d__law_all 1 ["rows"] (spLAll K) := by
  skip
  refine okf W (d := d__law_all) 37 sc__law_all rfl rfl (fun _ _ _ _ _ _ us hl => match us, hl with | [_], _ => rfl) ?len (fun cdv A outer s H vs Q E hr nd hu tk po h => ?body)
  case len =>
    rintro vs H Q E ⟨_, _, _, rfl, _⟩
    rfl
  case body =>
    refine ⟨_, (pss_cons (ps_set (i := 1) nd rfl (by first | exact Or.inl rfl | exact Or.inr rfl) (pe_lst pa_nil))
    (pss_cons (ps_for po rfl (pi_list (pv 0)) (pg_name (i := 2) nd rfl (by first | exact Or.inl rfl | exact Or.inr rfl))
      (pss_one (ps_set (i := 1) nd rfl (by first | exact Or.inl rfl | exact Or.inr rfl) (pe_op op_cat (pv 1) (pv 2)))))
    (pss_one (ps_ret (pv 1))))), ?_⟩
    obtain ⟨R, rs, rws, rfl, hR, hrs, hfl, hq⟩ := h
    clear tk po
    have szl := sizeLine_eq
    have hrl := hrs.ln
    walk_at "x"
    refine ⟨by decide, fun F hF => ?_⟩
    have sF := Same.new (o := HO.lst []) hF
    refine tFor_same (walk_list (K := K) (a := R) (xs := rs)) (fun R' hR' => ⟨_, rfl, R, rfl, ⟨_, SqL.of (sF _ _ hR)⟩, hR'⟩) (fun i σ H1 => ∃ F y, σ = [some (V.ref R), some (V.ref F), y] ∧ Same H H1 ∧ H F = none ∧ ∃ us, H1 F = some (.lst us) ∧ Trs K H1 us (rws.take i).flatten) ⟨F, _, rfl, sF, hF, [], upd_same, .nil⟩ (fun i σ H1 _ g => by obtain ⟨_, _, _, s, _⟩ := g; exact SqL.of (s _ _ hR)) ?_ ?_
    · rintro i x σ H1 H2 hi ⟨F, y, rfl, s1, bF, us, hF1, hus⟩ ⟨rfl, hxi⟩
      have hi2 : i < rws.length := by omega
      have hrow := List.getElem?_eq_getElem hi2
      obtain ⟨r, vs, rfl, k1, k2⟩ := (hrs.at_ i x _ hxi hrow).same s1
      generalize rws[i] = row at hrow k2
      have hul := hus.len
      have k2' : Trs K H2 vs row := k2
      have hvl := k2'.len
      have hsub : (rws.take i).flatten.length + row.length ≤ 500 := by
        have e : rws = rws.take i ++ row :: rws.drop (i + 1) := by
          conv => lhs; rw [← List.take_append_drop i rws, drop_at hrow]
        have e2 := congrArg (fun l => (List.flatten l).length) e
        simp only [List.flatten_append, List.flatten_cons, List.length_append] at e2
        omega
      walk_at "x"
      refine ⟨F, r, us, vs, rfl, rfl, hF1, k1, by omega, fun F2 hF2 => ?_⟩
      have s3 := Same.new (o := HO.lst (us ++ vs)) hF2
      refine ⟨F2, rfl, Same.trans s1 s3, Same.none s1 hF2, us ++ vs, upd_same, ?_⟩
      rw [List.take_add_one, hrow]
      simp only [Option.toList, List.flatten_append, List.flatten_cons, List.flatten_nil, List.append_nil]
      exact Trs.app (Trs.sm s3 hus) (Trs.sm s3 k2')
    · rintro σ H1 ⟨F, y, rfl, s1, bF, us, hF1, hus⟩
      walk_at "x"
      rw [List.take_of_length_le (by omega)] at hus
      exact hq F us H1 s1 bF hF1 hus
theorem o__law_rounds (W : Wd fa fn K mg) : OkF P w K mg base d__law_rounds 3 ["known", "wanted"] (spLRounds K) := by
  have o__law_within := (o__law_within (P := P) (w := w) (base := base) W)
  have o__law_next := (o__law_next (P := P) (w := w) (base := base) W)
  obtain ⟨fd__law_within, F__law_within, b__law_within, k__law_within⟩ := o__law_within.ex; obtain ⟨fd__law_next, F__law_next, b__law_next, k__law_next⟩ := o__law_next.ex
  refine okf W (d := d__law_rounds) 36 sc__law_rounds rfl rfl (fun _ _ _ _ _ _ us hl => match us, hl with | [_, _], _ => rfl) ?len (fun cdv A outer s H vs Q E hr nd hu tk po h => ?body)
  case len =>
    rintro vs H Q E ⟨_, _, _, _, _, _, rfl, _⟩
    rfl
  case body =>
    refine ⟨_, (pss_cons (ps_par (i := 2) (j := 3) (by rfl) nd rfl rfl (by decide) rfl rfl (pa_cons (by exact (pe_callS F__law_within (hr.mono (by first | decide | omega)) rfl (W.glo 53) k__law_within b__law_within (fun σ => passAt tk σ) (by exact (pa_cons (pe_op op_cat (pe_callTy call_list_of (by rfl) (W.free 21) (by decide +kernel) (pa_cons (pv 0) pa_nil)) (pe_callTy call_list_of (by rfl) (W.free 21) (by decide +kernel) (pa_cons (pv 1) pa_nil))) pa_nil)))) (pa_cons (pe_lst (pa_cons (pe_callTy call_list_of (by rfl) (W.free 21) (by decide +kernel) (pa_cons (pv 0) pa_nil)) pa_nil)) pa_nil)) (by rfl))
    (pss_cons (ps_set (i := 4) nd rfl (by first | exact Or.inl rfl | exact Or.inr rfl) (pe_callTy call_list_of (by rfl) (W.free 21) (by decide +kernel) (pa_cons (pv 0) pa_nil)))
    (pss_cons (ps_while po (PW.pt (pw_or (pt_cmpR (op_neW hr.units) (pe_ix ix_list (pv 3) (pe_un un_neg pe_int) (fun _ _ => rfl)) (pe_lst pa_nil) (nomark _)) (pw_or1 (pt_cmpR op_eq (pe_callB call_len (by rfl) (W.free 7) (by decide +kernel) (pa_cons (pv 3) pa_nil)) pe_int (nomark _)))))
      (pss_cons (ps_set (i := 5) nd rfl (by first | exact Or.inl rfl | exact Or.inr rfl) (pe_lst pa_nil))
    (pss_cons (ps_for po rfl (pi_list (by exact (pe_callS F__law_next (hr.mono (by first | decide | omega)) rfl (W.glo 54) k__law_next b__law_next (fun σ => passAt tk σ) (by exact (pa_cons (pv 2) (pa_cons (pv 4) pa_nil)))))) (pg_name (i := 6) nd rfl (by first | exact Or.inl rfl | exact Or.inr rfl))
      (pss_one (ps_set (i := 5) nd rfl (by first | exact Or.inl rfl | exact Or.inr rfl) (pe_op op_cat (pv 5) (pe_ifExp (pt_cmpR (op_notInT hr.units) (pv 6) (pv 5) (by rfl)) (pe_lst (pa_cons (pv 6) pa_nil)) (pe_lst pa_nil))))))
    (pss_cons (ps_if (pt_cmpR (op_eqW hr.units) (pv 5) (pe_lst pa_nil) (nomark _)) (pss_one (ps_ret (pv 3))) pss_nil)
    (pss_cons (ps_expr (pe_bm PySem.F.plainAttrs_list PySem.F.slot_list_append PySem.F.type_list_append mt_append (pv 3) (pa_cons (pv 5) pa_nil)))
    (pss_one (ps_set (i := 4) nd rfl (by first | exact Or.inl rfl | exact Or.inr rfl) (pe_op op_cat (pv 4) (pv 5)))))))))
    (pss_one (ps_ret (pv 3)))))), ?_⟩
    obtain ⟨a, xs, known, b, ys, ws, rfl, g, hq⟩ := h
    have hb := g.hb
    clear tk po
    have szl := sizeLine_eq
    walk_at "x"
    have hkl := g.kn
    have hwl := g.wn
    have hyl := g.hy.len
    have hsz := g.sz
    have hxl := g.hx.len
    refine ⟨_, .inr g.ha, fun l hl => ?_⟩
    have s1 := Same.new (o := HO.lst xs) hl
    refine ⟨_, .inl (SqL.of (s1 _ _ hb)), fun l2 hl2 => ?_⟩
    have s2 := Same.trans s1 (Same.new (o := HO.lst ys) hl2)
    have hll : (upd (upd H l (HO.lst xs)) l2 (HO.lst ys)) l = some (.lst xs) := by
      rw [upd_ne (fun e => by rw [← e, upd_same] at hl2; cases hl2), upd_same]
    refine ⟨l, l2, xs, ys, rfl, rfl, hll, upd_same, by omega, fun l3 hl3 => ?_⟩
    have s3 := Same.trans s2 (Same.new (o := HO.lst (xs ++ ys)) hl3)
    refine ⟨l3, _, known ++ ws, rfl, .l upd_same, Trs.app (Trs.sm s3 g.hx) (Trs.sm s3 g.hy), g.ok, by rw [List.length_append]; omega, fun e evs es H4 s4' he he4 hev hnd hmem => ?_⟩
    have s4 := Same.trans s3 s4'
    have hesE : ∀ t, t ∈ es ↔ t ∈ subsT (known ++ ws) := fun t => by rw [hmem, subsT_mem]
    have oke : ∀ t ∈ es, t.ok := fun t ht => subsT_ok g.ok t ((hesE t).mp ht)
    have hel : es.length ≤ 400 := by
      have h1 := nodup_len hnd fun t ht => (hesE t).mp ht
      have h2 := subsT_len (known ++ ws)
      have e : (subsT (known ++ ws)).length = (subsT (known ++ ws)).length := rfl
      omega
    refine ⟨_, .inr (g.same s4).ha, fun l5 hl5 => ⟨by decide, fun R hR => ?_⟩⟩
    have s5' := Same.new (o := HO.lst xs) hl5
    have s5 := Same.trans s4 s5'
    have s6' := Same.trans s5' (Same.new (o := HO.lst [V.ref l5]) hR)
    have s6 := Same.trans s4 s6'
    refine ⟨_, .inr (g.same s6).ha, fun hA hhA => ?_⟩
    have s7' := Same.trans s6' (Same.new (o := HO.lst xs) hhA)
    have s7 := Same.trans s4 s7'
    have hRA : R ≠ hA := fun e => by rw [← e, upd_same] at hhA; cases hhA
    have hl5R : l5 ≠ R := fun e => by rw [← e, upd_same] at hR; cases hR
    have hl5A : l5 ≠ hA := fun e => by rw [← e, upd_ne hl5R, upd_same] at hhA; cases hhA
    unfold tWhile
    refine ⟨kInv K H a b e R evs known es (subsT (known ++ ws)), ⟨_, [.ref l5], [known], 0, hA, xs, known, [], none, none, rfl, s7, Same.none s5 hR, s7' _ _ he4, Trs.sm s7' hev, by rw [upd_ne hRA, upd_same], ?_, .base, upd_same, (g.same s7).hx, by simp, by simp, (fun t h => nomatch h), (fun t => Iff.rfl), by simp, (fun a ha => by rw [V.ref.inj (List.mem_singleton.mp ha)]; exact hl5R), hRA.symm, Nat.le_refl _, rfl⟩, ?_⟩
    · refine ⟨rfl, fun i v r h1 h2 => ?_⟩
      cases i with
      | zero =>
        simp at h1 h2
        subst h1; subst h2
        exact ⟨l5, xs, rfl, by rw [upd_ne hl5A, upd_ne hl5R, upd_same], (g.same s7).hx⟩
      | succ i => simp at h1
    have heR : e ≠ R := fun q => by rw [← q] at hR; rw [upd_ne (fun q2 => by rw [← q2, he4] at hl5; cases hl5), he4] at hR; cases hR
    clear s1 s2 s3 hll s5 s5' s6 s6' hl5R hl5A hRA
    rintro m σ H1 ⟨rs, rws, n, hA, hvs, hd, tl, y5, y6, rfl, s1, bR, he1, hev1, hR1, hrs, hI, hA1, hhv, ehd, htn, hte, hhd, hfl, hnR, hAR, hntl, rfl⟩
    have hrl := hrs.ln
    have hIl := hI.len
    have htl := nodup_len htn hte
    have hhvl := hhv.len
    have hhdl : hd.length ≤ 408 := by rw [ehd, List.length_append]; omega
    have hdE : ∀ t ∈ hd, t ∈ subsT (known ++ ws) := fun t ht => rnd_in (fun t ht => subsT_self (List.mem_append_left _ ht)) subsT_closed n t ((hhd t).mp ht)
    have okh : ∀ t ∈ hd, t.ok := fun t ht => subsT_ok g.ok t (hdE t ht)
    refine tt_true (fun R' hR' => ?_) (fun H2 s2 => ?_)
    · obtain ⟨r0, row, er, hz⟩ := hI.last
      have hrsl : rs.length - 1 < rs.length := by omega
      have erow : rws[rs.length - 1]? = some row := by
        have hl2 := congrArg List.length er
        rw [List.length_append, List.length_singleton] at hl2
        rw [er, List.getElem?_append_right (by omega)]
        have e3 : rs.length - 1 - r0.length = 0 := by omega
        rw [e3]
        rfl
      have evl := List.getElem?_eq_getElem hrsl
      obtain ⟨ra, rvs, e1, k1, k2⟩ := hrs.at_ _ _ _ evl erow
      generalize rs[rs.length - 1] = lv at evl e1
      subst e1
      have okr : ∀ t ∈ row, t.ok := fun t ht => okh t ((hhd t).mpr ((hI.flat t).mp (List.mem_flatten.mpr ⟨row, List.mem_of_getElem? erow, ht⟩)))
      walk_at "x"
      refine ⟨_, SqL.of hR1, _, atI_end evl, by decide, fun q hq' => ?_⟩
      have sq := Same.new (o := HO.lst []) hq'
      refine rNeTs (SqL.of (sq _ _ k1)) (SqL.of upd_same) (Trs.sm sq k2) .nil okr ⟨_, rfl, ?_⟩
      by_cases hrn : row = []
      · rw [decide_eq_true hrn]
        refine iteF ⟨rs.length, len_l (sq _ _ hR1), ?_⟩
        have e4 : rs.length = 1 := by rw [hrl, hIl, hz hrn]
        rw [e4, decide_eq_true (by rfl)]
        exact hR' _ sq
      · rw [decide_eq_false hrn]
        exact iteT (hR' _ sq)
    have he2 := s2 _ _ he1
    have hev2 := Trs.sm s2 hev1
    have hR2 := s2 _ _ hR1
    have hrs2 := hrs.same s2
    have hA2 := s2 _ _ hA1
    have hhv2 := Trs.sm s2 hhv
    have s12 := Same.trans s1 s2
    clear hev1 hrs hhv
    refine iteT ⟨fun σ' H' => ∃ m', m' < 501 - tl.length ∧ kInv K H a b e R evs known es (subsT (known ++ ws)) m' σ' H', fun σ' H' h => h, ?_⟩
    walk_at "x"
    refine ⟨by decide, fun M hM => ?_⟩
    have sM := Same.new (o := HO.lst []) hM
    refine tFor_made (C := fun J H3 zs => ∃ q ms, J = Itl K q ∧ Same (upd H2 M (HO.lst [])) H3 ∧ H3 q = some (.lst zs) ∧ Trs K H3 zs ms ∧ (∀ t, t ∈ ms ↔ nxt es (fun t => t ∈ hd) t) ∧ ms.length ≤ 3 * hd.length + es.length) (fun R' hR' => ?_) ?_
    · exact ⟨_, rfl, _, rfl, e, evs, es, hA, hvs, hd, rfl, sM _ _ he2, Trs.sm sM hev2, oke, by omega, sM _ _ hA2, Trs.sm sM hhv2, okh, by omega, fun q zs ms H3 s3 hq0 hq1 hzs hms hmz => ⟨q, rfl, ⟨_, SqL.of hq1⟩, hR' _ _ _ ⟨q, ms, rfl, s3, hq1, hzs, hms, hmz⟩⟩⟩
    rintro J H3 zs ⟨q, ms, rfl, s3, hq3, hzs, hms, hmz⟩
    have sM3 := Same.trans sM s3
    have hzl := hzs.len
    refine tFor_same (walk_list (K := K) (a := q) (xs := zs)) (fun R hR => hR) (fun i σ H4 => ∃ M mv y, σ = [some (V.ref a), some (V.ref b), some (V.ref e), some (V.ref R), some (V.ref hA), some (V.ref M), y] ∧ Same H2 H4 ∧ Same H3 H4 ∧ H2 M = none ∧ H4 M = some (.lst mv) ∧ Trs K H4 mv (dedup (ms.take i))) ⟨M, [], _, rfl, sM3, Same.refl _, hM, s3 _ _ upd_same, .nil⟩ (fun i σ H4 _ h => by obtain ⟨_, _, _, _, _, s, _⟩ := h; exact SqL.of (s _ _ hq3)) ?_ ?_
    · rintro i x5 σ H4 H5 hi ⟨M, mv, y, rfl, s24, s34, bM, hM4, hmv⟩ ⟨rfl, hx5⟩
      obtain ⟨t, ht, hv⟩ := hzs.get hx5
      walk_at "x"
      have tin : t ∈ es := nxt_in (fun t ht => (hesE t).mpr (hdE t ht)) (fun u hu p hp => (hesE p).mpr (subsT_closed u ((hesE u).mp hu) p hp)) ((hms t).mp (List.mem_of_getElem? ht))
      have tok := oke t tin
      have hmvl := hmv.len
      have dl := dedup_len (ms.take i)
      rw [List.length_take] at dl
      refine ⟨t, dedup (ms.take i), M, mv, rfl, .l hM4, hmv, Tr.sm s34 hv, tok, _, rfl, ?_⟩
      have ed : dedup (ms.take (i + 1)) = if t ∈ dedup (ms.take i) then dedup (ms.take i) else dedup (ms.take i) ++ [t] := by
        rw [List.take_add_one, ht]
        exact dedup_snoc _ _
      rw [ed]
      by_cases hm : t ∈ dedup (ms.take i)
      · rw [decide_eq_true hm, if_pos hm]
        refine iteF ⟨by decide, fun p hp => ⟨M, p, mv, [], rfl, rfl, (Same.new hp) _ _ hM4, upd_same, by simp; omega, fun M2 hM2 => ?_⟩⟩
        have s5 := Same.new (o := HO.lst []) hp
        have s6 := Same.trans s5 (Same.new (o := HO.lst (mv ++ [])) hM2)
        refine ⟨M2, rfl, Same.trans s24 s6, Same.trans s34 s6, Same.none (Same.trans s24 s5) hM2, _, upd_same, ?_⟩
        have h6 := Trs.sm s6 hmv
        rw [List.append_nil] at h6 ⊢
        exact h6
      · rw [decide_eq_false hm, if_neg hm]
        refine iteT ⟨by decide, fun p hp => ⟨M, p, mv, [x5], rfl, rfl, (Same.new hp) _ _ hM4, upd_same, by simp; omega, fun M2 hM2 => ?_⟩⟩
        have s5 := Same.new (o := HO.lst [x5]) hp
        have s6 := Same.trans s5 (Same.new (o := HO.lst (mv ++ [x5])) hM2)
        exact ⟨M2, rfl, Same.trans s24 s6, Same.trans s34 s6, Same.none (Same.trans s24 s5) hM2, _, upd_same, Trs.snoc (Trs.sm s6 hmv) (Tr.sm (Same.trans s34 s6) hv)⟩
    · rintro σ H4 ⟨M, mv, y, rfl, s24, s34, bM, hM4, hmv⟩
      rw [hzl, List.take_length] at hmv
      dsimp only
      walk_at "x"
      refine ⟨by decide, fun p hp => ?_⟩
      have s5 := Same.new (o := HO.lst []) hp
      have hdi : ∀ t, t ∈ dedup ms ↔ nxt (subsT (known ++ ws)) (rnd known (subsT (known ++ ws)) n) t := fun t => by
        rw [dedup_mem, hms]
        exact nxt_cong hesE hhd t
      have hde : ∀ t ∈ dedup ms, t ∈ es := fun t ht => (hesE t).mpr (rnd_in (fun t ht => subsT_self (List.mem_append_left _ ht)) subsT_closed (n + 1) t (.inr ((hdi t).mp ht)))
      refine rEqTs (SqL.of (s5 _ _ hM4)) (SqL.of upd_same) (Trs.sm s5 hmv) .nil (fun t ht => oke t (hde t ht)) ⟨_, rfl, ?_⟩
      have s25 := Same.trans s24 s5
      have s15 := Same.trans s12 s25
      by_cases hz : dedup ms = []
      · rw [decide_eq_true hz]
        refine iteT (hq R rs rws n _ s15 (s25 _ _ hR2) (hrs2.same s25) hI (fun t ht => ?_) (by omega))
        have := (hdi t).mpr ht
        rw [hz] at this
        cases this
      · rw [decide_eq_false hz]
        have hR5 := s25 _ _ hR2
        have hM5 := s5 _ _ hM4
        have hA5 := s25 _ _ hA2
        have hMR : M ≠ R := fun e => by rw [e, hR2] at bM; cases bM
        have hmv5 := Trs.sm s5 hmv
        have hrs5 := hrs2.same s25
        have hhv5 := Trs.sm s25 hhv2
        have he5 := s25 _ _ he2
        have hev5 := Trs.sm s25 hev2
        generalize (upd H4 p (HO.lst [])) = H5 at hR5 hM5 hA5 hmv5 hrs5 hhv5 he5 hev5 s15 s25
        have hdn : (tl ++ dedup ms).Nodup := List.nodup_append.mpr ⟨htn, dedup_nodup ms, fun a ha b hb e => by
          subst e
          have h1 := (hdi a).mp hb
          exact h1.1 ((hhd a).mp (by rw [ehd]; exact List.mem_append_right _ ha))⟩
        have htl2 := nodup_len hdn (b := es) fun t ht => by
          rcases List.mem_append.mp ht with h | h
          · exact hte t h
          · exact hde t h
        have hdl : 0 < (dedup ms).length := List.length_pos_iff.mpr hz
        rw [List.length_append] at htl2
        have hmvl := hmv.len
        refine iteF ⟨tyLst hR5, rs, hR5, by omega, ?_⟩
        have tR : Tx H5 (upd H5 R (.lst (rs ++ [.ref M]))) := Tx.up hR5 noTup_l
        have hR6 : (upd H5 R (.lst (rs ++ [.ref M]))) R = some (.lst (rs ++ [.ref M])) := upd_same
        have hA6 : (upd H5 R (.lst (rs ++ [.ref M]))) hA = some (.lst hvs) := by rw [upd_ne hAR]; exact hA5
        have hM6 : (upd H5 R (.lst (rs ++ [.ref M]))) M = some (.lst mv) := by rw [upd_ne hMR]; exact hM5
        have he6 : (upd H5 R (.lst (rs ++ [.ref M]))) e = some (.lst evs) := by rw [upd_ne heR]; exact he5
        have hnR2 : ∀ a, V.ref a ∈ rs ++ [V.ref M] → a ≠ R := fun a ha => by
          rcases List.mem_append.mp ha with h | h
          · exact hnR a h
          · rw [V.ref.inj (List.mem_singleton.mp h)]; exact hMR
        have hrs6 := hrs5.snoc hR5 hnR2 ⟨M, mv, rfl, hM5, hmv5⟩
        have hev6 := hev5.tx tR
        have hhv6 := hhv5.tx tR
        have hmv6 := hmv5.tx tR
        have s6 : Same H (upd H5 R (.lst (rs ++ [.ref M]))) := Same.mut s15 bR
        generalize (upd H5 R (.lst (rs ++ [.ref M]))) = H6 at hR6 hA6 hM6 he6 hrs6 hev6 hhv6 hmv6 s6
        refine ⟨hA, M, hvs, mv, rfl, rfl, hA6, hM6, by omega, fun hA2 hhA2 => ?_⟩
        have s7 := Same.new (o := HO.lst (hvs ++ mv)) hhA2
        refine ⟨501 - (tl ++ dedup ms).length, by rw [List.length_append]; omega, rs ++ [.ref M], rws ++ [dedup ms], n + 1, hA2, hvs ++ mv, hd ++ dedup ms, tl ++ dedup ms, _, _, rfl, Same.trans s6 s7, bR, s7 _ _ he6, Trs.sm s7 hev6, s7 _ _ hR6, hrs6.same s7, .step hI hz hdi, upd_same, Trs.app (Trs.sm s7 hhv6) (Trs.sm s7 hmv6), by rw [ehd, List.append_assoc], hdn, ?_, ?_, ?_, hnR2, (fun q => by rw [q, hR6] at hhA2; cases hhA2), by rw [List.length_append]; omega, rfl⟩
        · intro t ht
          rcases List.mem_append.mp ht with h | h
          · exact hte t h
          · exact hde t h
        · intro t
          rw [List.mem_append, hhd, hdi]
          rfl
        · rw [List.flatten_append, List.length_append, hfl, List.length_append]
          simp
end
end WW

set_option maxHeartbeats 4000000
namespace WW
open PySem PySem.Spec PyProof.Rows L2
local macro_rules | `(tactic| walk_at "x") => `(tactic| simp only [tSeq, tNext, tAsg, gName, tRet, tRetN, tIfS, tOp, tUn, rI, rI0, rU, tTest, tB, tAnd, tOr, tNot, tAndV, tOrV, tNotV, tIf, tCons, tNil, tTup, tLst, tCall, tCallS, tMeth, tMake, tFld, sFld, tBM, tBM0, tCB, tSl, tPart, tNoPart, tDrop, tPar, tPar3, tAug, ipI, gTup, gCons, gNil, gSub, rSetL, rAppend, rPop, rIxL, rIxS, rIxT, rEq, rNe, tChain, tNever, tThen, tVar, tC, L2.start, List.map_cons, List.map_nil, List.length_cons, List.length_nil, List.replicate_succ, List.replicate_zero, List.append_nil, List.nil_append, List.cons_append, Nat.reduceAdd, Nat.reduceSub, Nat.add_zero, Nat.zero_add, Nat.sub_zero, Nat.sub_self,
  List.getElem?_cons_zero, List.getElem?_cons_succ, Option.some.injEq, exists_eq_left', exists_eq_left, exists_eq', exists_eq, exists_and_left, List.set_cons_zero, List.set_cons_succ, V.int.injEq, V.bl.injEq, V.str.injEq, V.ref.injEq, V.ty.injEq, List.cons.injEq, and_true, true_and, and_assoc, if_true, if_false, Bool.false_eq_true, reduceCtorEq, false_and, and_false, exists_false, false_or, or_false, Bool.not_true, Bool.not_false, decide_eq_true_eq, ite_true, ite_false, WE, cxOf_K, cxOf_mg, rSlS, scal, wipe, mem_low, mem_dig, mem_brk, mem_brk4, sgn_inj, Bool.decide_eq_true])

def spLFalls (K : PySem.W.Frag) : Sp := fun vs H Q _ => ∃ (k : Int) (x y : V), vs = [.int k, x, y] ∧ OddK K H x y ∧ (k ≠ 0 → k ≠ 1 → OddT K H x) ∧ ∀ H', Same H H' → Q (.bl true) H'
theorem dedup_id {ts : List Te} (h : ts.Nodup) : dedup ts = ts := by
  have gen : ∀ i, dedup (ts.take i) = ts.take i := by
    intro i
    induction i with
    | zero => rfl
    | succ i ih =>
      cases ht : ts[i]? with
      | none =>
        have hl := List.getElem?_eq_none_iff.mp ht
        rw [List.take_of_length_le (by omega)] at ih ⊢
        exact ih
      | some t =>
        have hni : t ∉ ts.take i := fun hm => by
          obtain ⟨j, hj, e⟩ := List.getElem_of_mem hm
          rw [List.length_take] at hj
          rw [List.getElem_take] at e
          have h1 := nodup_ix h ht
          have h2 := nodup_ix h (i := j) (t := t) (by rw [List.getElem?_eq_getElem (by omega), e])
          omega
        rw [List.take_add_one, ht]
        show dedup (ts.take i ++ [t]) = _
        rw [dedup_snoc, ih, if_neg hni]
        rfl
  have := gen ts.length
  rwa [List.take_length] at this
section
variable {P : Program} {w : World} {K : PySem.W.Frag} {mg : Str → Option Value} {base : Heap}
theorem o__law_falls (W : Wd fa fn K mg) : OkF P w K mg base d__law_falls 66 ["which", "known", "wanted"] (spLFalls K) := by
  have o_gained := (o_gained (P := P) (w := w) (base := base) W).mono (show 65 ≤ 65 by decide)
  have o_needed := (o_needed (P := P) (w := w) (base := base) W).mono (show 65 ≤ 65 by decide)
  have o_had := (o_had (P := P) (w := w) (base := base) W).mono (show 65 ≤ 65 by decide)
  obtain ⟨fd_gained, F_gained, b_gained, k_gained⟩ := o_gained.ex; obtain ⟨fd_needed, F_needed, b_needed, k_needed⟩ := o_needed.ex; obtain ⟨fd_had, F_had, b_had, k_had⟩ := o_had.ex
  refine okf W (d := d__law_falls) 42 sc__law_falls rfl rfl (fun _ _ _ _ _ _ us hl => match us, hl with | [_, _, _], _ => rfl) ?len (fun cdv A outer s H vs Q E hr nd hu tk po h => ?body)
  case len =>
    rintro vs H Q E ⟨_, _, _, rfl, _⟩
    rfl
  case body =>
    refine ⟨_, (pss_cons (ps_try_only rfl rfl ⟨rfl, by decide, .inl (W.glo 26)⟩ tk (fun _ _ _ tk po => (pss_one (ps_if (pt_cmpR op_eq (pv 0) pe_int (nomark _)) (pss_one (ps_expr (by exact (pe_callS F_gained (hr.mono (by first | decide | omega)) rfl (W.glo 57) k_gained b_gained (fun σ => passAt tk σ) (by exact (pa_cons (pv 1) (pa_cons (pv 2) pa_nil))))))) (pss_one (ps_if (pt_cmpR op_eq (pv 0) pe_int (nomark _)) (pss_one (ps_expr (by exact (pe_callS F_needed (hr.mono (by first | decide | omega)) rfl (W.glo 58) k_needed b_needed (fun σ => passAt tk σ) (by exact (pa_cons (pv 1) (pa_cons (pv 2) pa_nil))))))) (pss_one (ps_expr (by exact (pe_callS F_had (hr.mono (by first | decide | omega)) rfl (W.glo 59) k_had b_had (fun σ => passAt tk σ) (by exact (pa_cons (pv 1) pa_nil))))))))))) (fun _ _ _ _ _ _ _ => (pss_one (ps_ret pe_bl))))
    (pss_one (ps_ret pe_bl))), ?_⟩
    obtain ⟨k, x, y, rfl, hodd, hot, hq⟩ := h
    clear tk po
    walk_at "x"
    have ex := W.exm (x := "Malformed") (y := "Malformed") (b := true) 72
    by_cases hk : k = 0
    · rw [if_pos hk]
      exact .inr ⟨x, y, rfl, hodd, fun H' s' => ⟨true, ex, fun _ a ha => hq H' s', fun h => by cases h⟩⟩
    · rw [if_neg hk]
      by_cases hk1 : k = 1
      · rw [if_pos hk1]
        exact .inr ⟨x, y, rfl, hodd, fun H' s' => ⟨true, ex, fun _ a ha => hq H' s', fun h => by cases h⟩⟩
      · rw [if_neg hk1]
        exact .inr ⟨x, rfl, hot hk hk1, fun H' s' => ⟨true, ex, fun _ a ha => hq H' s', fun h => by cases h⟩⟩
end
end WW

set_option maxHeartbeats 4000000
namespace WW
open PySem PySem.Spec PyProof.Rows L2
local macro_rules | `(tactic| walk_at "x") => `(tactic| simp only [tSeq, tNext, tAsg, gName, tRet, tRetN, tIfS, tOp, tUn, rI, rI0, rU, tTest, tB, tAnd, tOr, tNot, tAndV, tOrV, tNotV, tIf, tCons, tNil, tTup, tLst, tCall, tCallS, tMeth, tMake, tFld, sFld, tBM, tBM0, tCB, tSl, tPart, tNoPart, tDrop, tPar, tPar3, tAug, ipI, gTup, gCons, gNil, gSub, rSetL, rAppend, rPop, rIxL, rIxS, rIxT, rEq, rNe, tChain, tNever, tThen, tVar, tC, L2.start, List.map_cons, List.map_nil, List.length_cons, List.length_nil, List.replicate_succ, List.replicate_zero, List.append_nil, List.nil_append, List.cons_append, Nat.reduceAdd, Nat.reduceSub, Nat.add_zero, Nat.zero_add, Nat.sub_zero, Nat.sub_self,
  List.getElem?_cons_zero, List.getElem?_cons_succ, Option.some.injEq, exists_eq_left', exists_eq_left, exists_eq', exists_eq, exists_and_left, List.set_cons_zero, List.set_cons_succ, V.int.injEq, V.bl.injEq, V.str.injEq, V.ref.injEq, V.ty.injEq, List.cons.injEq, and_true, true_and, and_assoc, if_true, if_false, Bool.false_eq_true, reduceCtorEq, false_and, and_false, exists_false, false_or, or_false, Bool.not_true, Bool.not_false, decide_eq_true_eq, ite_true, ite_false, WE, cxOf_K, cxOf_mg, rSlS, scal, wipe, mem_low, mem_dig, mem_brk, mem_brk4, sgn_inj, Bool.decide_eq_true])

structure DrAt (H : Hp) (dr cs : Addr) (ns : List Int) (p q sd : Int) : Prop where
  d : H dr = some (.lst [.ref cs, .int p, .int q, .int sd])
  c : H cs = some (.lst (ns.map V.int))
  pp : -1 ≤ p
  qq : 0 ≤ q
  s0 : 0 ≤ sd
  s1 : sd < 2147483648
def Dr (H : Hp) (dr cs : Addr) : Prop := ∃ ns p q sd, DrAt H dr cs ns p q sd ∧ (∀ n ∈ ns, 0 ≤ n) ∧ ns.length ≤ 1000
theorem DrAt.ne {H : Hp} {dr cs : Addr} {ns : List Int} {p q sd : Int} (g : DrAt H dr cs ns p q sd) : cs ≠ dr := by
  rintro rfl
  have := g.c.symm.trans g.d
  cases ns with
  | nil => cases this
  | cons n ns => simp at this
theorem DrAt.mk' {H : Hp} {dr cs : Addr} {ns : List Int} {p q sd p' q' sd' : Int} (g : DrAt H dr cs ns p q sd) (a1 : -1 ≤ p') (a2 : 0 ≤ q') (a3 : 0 ≤ sd') (a4 : sd' < 2147483648) : DrAt (upd H dr (.lst [.ref cs, .int p', .int q', .int sd'])) dr cs ns p' q' sd' :=
  ⟨upd_same, by rw [upd_ne g.ne]; exact g.c, a1, a2, a3, a4⟩
theorem SqL.same {K : PySem.W.Frag} {H H' : Hp} {a : Addr} {xs : List V} (t : Same H H') (h : SqL K H a xs) : SqL K H' a xs := Same.seq t h
def spDraw (K : PySem.W.Frag) : Sp := fun vs H Q _ => ∃ (l : Addr) (ns : List Int), vs = [.ref l] ∧ SqL K H l (ns.map V.int) ∧ ns.length ≤ 63 ∧ ∀ dr cs H', Same H H' → H dr = none → H cs = none → Dr H' dr cs → Q (.ref dr) H'
def spTake1 : Sp := fun vs H Q _ => ∃ (dr cs : Addr) (m : Int), vs = [.ref dr, .int m] ∧ 0 < m ∧ m < 1000000 ∧ Dr H dr cs ∧ ∀ (n : Nat) H', (n : Int) < m → (∀ a, a ≠ dr → H' a = H a) → Dr H' dr cs → Q (.int (n : Int)) H'
def Kp (dr cs : Addr) (H H' : Hp) : Prop := (∀ a o, a ≠ dr → H a = some o → H' a = some o) ∧ Dr H' dr cs
theorem Dr.of_eq {H H' : Hp} {dr cs : Addr} (h : ∀ a o, H a = some o → H' a = some o) (D : Dr H dr cs) : Dr H' dr cs := by
  obtain ⟨ns, p, q, sd, g, h1, h2⟩ := D
  exact ⟨ns, p, q, sd, ⟨h _ _ g.d, h _ _ g.c, g.pp, g.qq, g.s0, g.s1⟩, h1, h2⟩
theorem Kp.of {dr cs : Addr} {H H1 : Hp} (fr : ∀ a, a ≠ dr → H1 a = H a) (h : Dr H1 dr cs) : Kp dr cs H H1 := ⟨fun a o n e => by rw [fr a n]; exact e, h⟩
theorem Kp.refl {dr cs : Addr} {H : Hp} (h : Dr H dr cs) : Kp dr cs H H := ⟨fun _ _ _ e => e, h⟩
theorem Kp.trans {dr cs : Addr} {H H1 H2 : Hp} (a : Kp dr cs H H1) (b : Kp dr cs H1 H2) : Kp dr cs H H2 := ⟨fun p o n e => b.1 p o n (a.1 p o n e), b.2⟩
theorem Kp.same {dr cs : Addr} {H H1 : Hp} (D : Dr H dr cs) (s : Same H H1) : Kp dr cs H H1 := ⟨fun a o _ e => s a o e, Dr.of_eq s D⟩
theorem Kp.new {dr cs p : Addr} {H H1 : Hp} {o : HO} (a : Kp dr cs H H1) (h : H1 p = none) : Kp dr cs H (upd H1 p o) := a.trans (Kp.same a.2 (Same.new h))
theorem Kp.tx {dr cs : Addr} {H H1 : Hp} (D : Dr H dr cs) (a : Kp dr cs H H1) : Tx H H1 := fun b xs => by
  obtain ⟨ns, p, q, sd, g, _, _⟩ := D
  refine ⟨fun e => a.1 b _ (fun n => ?_) e, fun o e => a.1 b _ (fun n => ?_) e⟩ <;> (rw [n, g.d] at e; cases e)
theorem Kp.mut {dr cs D : Addr} {H H1 : Hp} {o : HO} (a : Kp dr cs H H1) (D0 : Dr H dr cs) (h : H D = none) : Kp dr cs H (upd H1 D o) := by
  obtain ⟨ns, p, q, sd, g, _, _⟩ := D0
  obtain ⟨ns', p', q', sd', g', h1, h2⟩ := a.2
  have n1 : dr ≠ D := ne_of_none g.d h
  have n2 : cs ≠ D := ne_of_none g.c h
  exact ⟨fun b u nb e => by rw [upd_ne (ne_of_none e h)]; exact a.1 b u nb e, ns', p', q', sd', ⟨by rw [upd_ne n1]; exact g'.d, by rw [upd_ne n2]; exact g'.c, g'.pp, g'.qq, g'.s0, g'.s1⟩, h1, h2⟩

section
variable {P : Program} {w : World} {K : PySem.W.Frag} {mg : Str → Option Value} {base : Heap}
theorem o__law_draw (W : Wd fa fn K mg) : OkF P w K mg base d__law_draw 1 ["script"] (spDraw K) := by
  refine okf W (d := d__law_draw) 28 sc__law_draw rfl rfl (fun _ _ _ _ _ _ us hl => match us, hl with | [_], _ => rfl) ?len (fun cdv A outer s H vs Q E hr nd hu tk po h => ?body)
  case len =>
    rintro vs H Q E ⟨_, _, rfl, _⟩
    rfl
  case body =>
    refine ⟨_, (pss_cons (ps_set (i := 1) nd rfl (by first | exact Or.inl rfl | exact Or.inr rfl) pe_int)
    (pss_cons (ps_for po rfl (pi_list (pv 0)) (pg_name (i := 2) nd rfl (by first | exact Or.inl rfl | exact Or.inr rfl))
      (pss_one (ps_set (i := 1) nd rfl (by first | exact Or.inl rfl | exact Or.inr rfl) (pe_op op_mod (pe_callTy call_int1 (by rfl) (W.free 2) (by decide +kernel) (pa_cons (pe_op op_add (pe_op op_add (pe_op op_mul (pv 1) pe_int) (pe_op op_mod (pe_callB call_abs (by rfl) (W.free 49) (by decide +kernel) (pa_cons (pe_callTy call_int1 (by rfl) (W.free 2) (by decide +kernel) (pa_cons (pv 2) pa_nil)) pa_nil)) pe_int)) pe_int) pa_nil)) pe_int))))
    (pss_one (ps_ret (pe_lst (pa_cons (pe_lc (own := [("cell", 2)]) (g := (gName 2)) (tt := tYes) rfl nd (pi_list (pv 0)) (blkOk_by (own := [("cell", 2)]) (N := ["script", "seed", "cell"]) (sc := defScope s__law_draw) (by decide +kernel)) (fun _ _ _ _ _ => (pg_name (i := 2) nd rfl (by first | exact Or.inl rfl | exact Or.inr rfl))) (fun _ _ _ _ _ => pts_nil) (fun _ _ _ _ _ => (pe_callB call_abs (by rfl) (W.free 49) (by decide +kernel) (pa_cons (pe_callTy call_int1 (by rfl) (W.free 2) (by decide +kernel) (pa_cons (pv 2) pa_nil)) pa_nil)))) (pa_cons (pe_un un_neg pe_int) (pa_cons pe_int (pa_cons (pv 1) pa_nil))))))))), ?_⟩
    obtain ⟨l, ns, rfl, hs, hl, hq⟩ := h
    clear tk po
    walk_at "x"
    refine tFor_same (walk_list (K := K) (a := l) (xs := ns.map V.int)) ?_ (fun i σ H' => H' = H ∧ ∃ sd y, σ = [some (.ref l), some (.int sd), y] ∧ 0 ≤ sd ∧ sd < 2147483648) ⟨rfl, 7, none, rfl, by decide, by decide⟩ (fun _ _ _ _ h => h.1 ▸ hs) ?_ ?_
    · intro R hR
      simp only [iList]
      walk_at "x"
      exact ⟨⟨_, hs⟩, hR⟩
    · rintro i x σ H1 H2 hi ⟨rfl, sd, y, rfl, s0, s1⟩ ⟨rfl, hx⟩
      rw [List.getElem?_map] at hx
      obtain ⟨c, _, rfl⟩ := Option.map_eq_some_iff.mp hx
      walk_at "x"
      refine ⟨.inr ⟨by omega, by omega⟩, by decide, by decide, ?_, ?_⟩ <;> omega
    · rintro σ H1 ⟨rfl, sd, y, rfl, s0, s1⟩
      walk_at "x"
      refine tLc_of (walk_list (K := K) (a := l) (xs := ns.map V.int)) (H1 := H1) ?_ (fun D i H' => Same H1 H' ∧ H1 D = none ∧ H' D = some (.lst (((ns.map fun c => if c < 0 then -c else c).take i).map V.int))) ?_ ?_ ?_ ?_
      · intro R hR
        simp only [iList]
        walk_at "x"
        exact ⟨⟨_, hs⟩, hR⟩
      · intro D hD
        exact ⟨Same.new hD, hD, upd_same⟩
      · rintro D i H' _ ⟨sm, hD, _⟩
        exact (SqL.same sm hs)
      · rintro D i x H2 H3 hi ⟨sm, hD, h2⟩ ⟨rfl, hx⟩
        rw [List.length_map] at hi
        rw [List.getElem?_map] at hx
        obtain ⟨c, hc, rfl⟩ := Option.map_eq_some_iff.mp hx
        walk_at "x"
        refine ⟨_, h2, by rw [List.length_map, List.length_take, List.length_map, sizeLine_eq]; omega, Same.mut sm hD, hD, ?_⟩
        rw [List.take_succ, List.getElem?_map, hc]
        simp
        exact upd_same
      · rintro D H2 ⟨sm, hD, h2⟩
        refine ⟨by decide, fun p hp => ?_⟩
        have n1 : D ≠ p := ne_of_none h2 hp
        refine hq _ D _ (Same.mut sm (Same.none sm hp)) (Same.none sm hp) hD ⟨ns.map fun c => if c < 0 then -c else c, -1, 0, sd, ⟨upd_same, ?_, by decide, by decide, s0, s1⟩, ?_, by rw [List.length_map]; omega⟩
        · rw [upd_ne n1, h2, List.take_of_length_le (by simp)]
        · intro n hn
          obtain ⟨c, _, rfl⟩ := List.mem_map.mp hn
          split <;> omega
theorem o__law_take (W : Wd fa fn K mg) : OkF P w K mg base d__law_take 1 ["draw", "many"] spTake1 := by
  refine okf W (d := d__law_take) 29 sc__law_take rfl rfl (fun _ _ _ _ _ _ us hl => match us, hl with | [_, _], _ => rfl) ?len (fun cdv A outer s H vs Q E hr nd hu tk po h => ?body)
  case len =>
    rintro vs H Q E ⟨_, _, _, rfl, _⟩
    rfl
  case body =>
    refine ⟨_, (Evl.pss_cut (ps_if (pt_cmpR op_eq (pe_ix ix_list (pv 0) pe_int (fun _ _ => rfl)) pe_int (nomark _)) (pss_cons (ps_asg (pe_op op_add (pe_ix ix_list (pv 0) pe_int (fun _ _ => rfl)) pe_int) (pg_sub (pv 0) pe_int set_list))
    (Evl.pss_cut (ps_if (pt_cmpR op_lt (pe_ix ix_list (pv 0) pe_int (fun _ _ => rfl)) (pe_callB call_len (by rfl) (W.free 7) (by decide +kernel) (pa_cons (pe_ix ix_list (pv 0) pe_int (fun _ _ => rfl)) pa_nil)) (nomark _)) (pss_one (ps_asg (pe_ix ix_list (pe_ix ix_list (pv 0) pe_int (fun _ _ => rfl)) (pe_ix ix_list (pv 0) pe_int (fun _ _ => rfl)) (fun _ _ => rfl)) (pg_sub (pv 0) pe_int set_list))) pss_nil)
    (pss_one (ps_if (pt_cmpR op_eq (pe_ix ix_list (pv 0) pe_int (fun _ _ => rfl)) pe_int (nomark _)) (pss_cons (ps_asg (pe_op op_mod (pe_callTy call_int1 (by rfl) (W.free 2) (by decide +kernel) (pa_cons (pe_op op_add (pe_op op_mul (pe_ix ix_list (pv 0) pe_int (fun _ _ => rfl)) pe_int) pe_int) pa_nil)) pe_int) (pg_sub (pv 0) pe_int set_list))
    (pss_one (ps_asg (pe_ix ix_list (pv 0) pe_int (fun _ _ => rfl)) (pg_sub (pv 0) pe_int set_list)))) pss_nil)))) pss_nil)
    (pss_cons (ps_set (i := 2) nd rfl (by first | exact Or.inl rfl | exact Or.inr rfl) (pe_op op_mod (pe_callTy call_int1 (by rfl) (W.free 2) (by decide +kernel) (pa_cons (pe_ix ix_list (pv 0) pe_int (fun _ _ => rfl)) pa_nil)) (pv 1)))
    (pss_cons (ps_asg (pe_op op_fdiv (pe_ix ix_list (pv 0) pe_int (fun _ _ => rfl)) (pv 1)) (pg_sub (pv 0) pe_int set_list))
    (pss_one (ps_ret (pv 2)))))), ?_⟩
    obtain ⟨dr, cs, m, rfl, hm0, hm1, ⟨ns, p, q, sd, g, hns, hnl⟩, hq⟩ := h
    clear tk po
    unfold Evl.tCut
    refine ⟨fun σ H' => σ = [some (.ref dr), some (.int m), none] ∧ ∃ p q sd, DrAt H' dr cs ns p q sd ∧ ∀ a, a ≠ dr → H' a = H a, ?_, ?_⟩
    · walk_at "x"
      refine ⟨_, SqL.of g.d, _, rfl, rfl, ?_⟩
      by_cases h0 : q = 0
      · subst h0
        rw [if_pos rfl]
        have pp := g.pp
        have g1 := g.mk' (p' := p + 1) (q' := 0) (sd' := sd) (by omega) (by omega) g.s0 g.s1
        refine ⟨_, SqL.of g.d, _, rfl, _, rfl, _, g.d, _, rfl, fun σ H' => σ = [some (.ref dr), some (.int m), none] ∧ ∃ p q sd, DrAt H' dr cs ns p q sd ∧ ∀ a, a ≠ dr → H' a = H a, ?_, ?_⟩
        · simp only [List.set_cons_succ, List.set_cons_zero]
          refine ⟨_, SqL.of upd_same, _, rfl, _, SqL.of upd_same, _, rfl, ns.length, .inl ⟨_, SqL.of g1.c, by simp⟩, _, rfl, ?_⟩
          by_cases h1 : p + 1 < (ns.length : Int)
          · rw [if_pos h1]
            have h2 : (p + 1).toNat < ns.length := by omega
            have e1 : (ns.map V.int)[(p + 1).toNat]? = some (.int ns[(p + 1).toNat]) := by rw [List.getElem?_map, List.getElem?_eq_getElem h2]; rfl
            have e2 : atI (ns.map V.int) (p + 1) = some (.int ns[(p + 1).toNat]) := by
              have := atI_nat e1
              rwa [show (((p + 1).toNat : Nat) : Int) = p + 1 by omega] at this
            have n0 := hns _ (List.getElem_mem h2)
            have g2 := g1.mk' (p' := p + 1) (q' := ns[(p + 1).toNat]) (sd' := sd) (by omega) n0 g.s0 g.s1
            rw [upd_upd] at g2
            refine ⟨_, SqL.of upd_same, _, rfl, _, SqL.of upd_same, _, rfl, cs, rfl, _, _, rfl, SqL.of g1.c, _, e2, _, upd_same, _, rfl, trivial, p + 1, ns[(p + 1).toNat], sd, ?_, fun a ha => by rw [upd_ne ha, upd_ne ha]⟩
            rw [upd_upd]
            exact g2
          · rw [if_neg h1]
            exact ⟨trivial, _, _, _, g1, fun a ha => upd_ne ha⟩
        · rintro σ H2 ⟨rfl, p2, q2, sd2, g2, kp⟩
          refine ⟨_, rfl, dr, rfl, _, SqL.of g2.d, _, rfl, rfl, ?_⟩
          by_cases h1 : q2 = 0
          · subst h1
            rw [if_pos rfl]
            have g3 := g2.mk' (p' := p2) (q' := (sd2 * 48271 + 11) % 2147483647) (sd' := (sd2 * 48271 + 11) % 2147483647) g2.pp (by omega) (by omega) (by omega)
            refine ⟨_, rfl, dr, rfl, _, SqL.of g2.d, _, rfl, _, rfl, .inr ⟨by decide, by decide⟩, by decide, _, rfl, dr, rfl, _, g2.d, _, rfl, _, rfl, dr, rfl, _, SqL.of upd_same, _, rfl, _, rfl, dr, rfl, _, upd_same, _, rfl, rfl, p2, (sd2 * 48271 + 11) % 2147483647, (sd2 * 48271 + 11) % 2147483647, ?_, fun a ha => by rw [upd_ne ha, upd_ne ha]; exact kp a ha⟩
            rw [upd_upd]
            exact g3
          · rw [if_neg (by simpa using h1)]
            exact ⟨rfl, _, _, _, g2, kp⟩
      · rw [if_neg (by simpa using h0)]
        exact ⟨_, _, _, g, fun _ _ => trivial⟩
    · rintro σ H1 ⟨rfl, p1, q1, sd1, g1, kp⟩
      walk_at "x"
      refine ⟨_, SqL.of g1.d, _, rfl, .inl ⟨_, rfl, hm0, _, SqL.of g1.d, _, rfl, _, rfl, ⟨hm0, by omega⟩, _, g1.d, _, rfl, ?_⟩⟩
      have r1 := Int.emod_nonneg q1 (show m ≠ 0 by omega)
      have r2 := Int.emod_lt_of_pos q1 hm0
      have g2 := g1.mk' (p' := p1) (q' := q1 / m) (sd' := sd1) g1.pp (Int.ediv_nonneg g1.qq (by omega)) g1.s0 g1.s1
      have := hq (q1 % m).toNat _ (by omega) (fun a ha => by rw [upd_ne ha]; exact kp a ha) ⟨ns, _, _, _, g2, hns, hnl⟩
      rw [show (((q1 % m).toNat : Nat) : Int) = q1 % m by omega] at this
      exact this

end
end WW

set_option maxHeartbeats 4000000
namespace WW
open PySem PySem.Spec PyProof.Rows L2
local macro_rules | `(tactic| walk_at "x") => `(tactic| simp only [tSeq, tNext, tAsg, gName, tRet, tRetN, tIfS, tOp, tUn, rI, rI0, rU, tTest, tB, tAnd, tOr, tNot, tAndV, tOrV, tNotV, tIf, tCons, tNil, tTup, tLst, tCall, tCallS, tMeth, tMake, tFld, sFld, tBM, tBM0, tCB, tSl, tPart, tNoPart, tDrop, tPar, tPar3, tAug, ipI, gTup, gCons, gNil, gSub, rSetL, rAppend, rPop, rIxL, rIxS, rIxT, rEq, rNe, tChain, tNever, tThen, tVar, tC, L2.start, List.map_cons, List.map_nil, List.length_cons, List.length_nil, List.replicate_succ, List.replicate_zero, List.append_nil, List.nil_append, List.cons_append, Nat.reduceAdd, Nat.reduceSub, Nat.add_zero, Nat.zero_add, Nat.sub_zero, Nat.sub_self,
  List.getElem?_cons_zero, List.getElem?_cons_succ, Option.some.injEq, exists_eq_left', exists_eq_left, exists_eq', exists_eq, exists_and_left, List.set_cons_zero, List.set_cons_succ, V.int.injEq, V.bl.injEq, V.str.injEq, V.ref.injEq, V.ty.injEq, List.cons.injEq, and_true, true_and, and_assoc, if_true, if_false, Bool.false_eq_true, reduceCtorEq, false_and, and_false, exists_false, false_or, or_false, Bool.not_true, Bool.not_false, decide_eq_true_eq, ite_true, ite_false, WE, cxOf_K, cxOf_mg, rSlS, scal, wipe, mem_low, mem_dig, mem_brk, mem_brk4, sgn_inj, Bool.decide_eq_true])

def lsz : Nat → Nat
  | 0 => 1
  | n + 1 => 2 + 2 * lsz n
def names5 : List Te := [.s, .k, .n, .own, .x]
structure NmAt (K : PySem.W.Frag) (H : Hp) (nm : Addr) : Prop where
  ex : ∃ nvs, H nm = some (.lst nvs) ∧ Trs K H nvs names5
theorem NmAt.kp {K : PySem.W.Frag} {H H' : Hp} {nm dr cs : Addr} (h : NmAt K H nm) (D : Dr H dr cs) (k : Kp dr cs H H') (ne : nm ≠ dr) : NmAt K H' nm := by
  obtain ⟨nvs, h1, h2⟩ := h
  exact ⟨nvs, k.1 _ _ ne h1, h2.tx (k.tx D)⟩
def spLTerm (K : PySem.W.Frag) (n : Nat) : Sp := fun vs H Q _ => ∃ (dr cs nm : Addr) (k : Nat), vs = [.ref dr, .int (k : Nat), .ref nm] ∧ k < n ∧ Dr H dr cs ∧ NmAt K H nm ∧ nm ≠ dr ∧ ∀ v t H', Kp dr cs H H' → Tr K H' v t → t.size ≤ lsz k → t.depth ≤ 2 * k + 1 → Q v H'
section
variable {P : Program} {w : World} {K : PySem.W.Frag} {mg : Str → Option Value} {base : Heap}
theorem term_step (n : Nat) (W : Wd fa fn K mg) (o__law_term : OkF P w K mg base d__law_term (n + 1) ["draw", "deep", "names"] (spLTerm K n)) : OkF P w K mg base d__law_term (n + 1 + 1) ["draw", "deep", "names"] (spLTerm K (n + 1)) := by
  obtain ⟨fd__law_term, F__law_term, b__law_term, k__law_term⟩ := o__law_term.ex
  have o__law_take := (o__law_take (P := P) (w := w) (base := base) W).mono (show 1 ≤ n + 1 by omega)
  obtain ⟨fd__law_take, F__law_take, b__law_take, k__law_take⟩ := o__law_take.ex
  refine okf W (d := d__law_term) 38 sc__law_term rfl rfl (fun _ _ _ _ _ _ us hl => match us, hl with | [_, _, _], _ => rfl) ?len (fun cdv A outer s H vs Q E hr nd hu tk po h => ?body)
  case len =>
    rintro vs H Q E ⟨_, _, _, _, rfl, _⟩
    rfl
  case body =>
    refine ⟨_, (pss_cons (ps_set (i := 3) nd rfl (by first | exact Or.inl rfl | exact Or.inr rfl) (pe_ifExp (pt_cmpR op_gt (pv 1) pe_int (nomark _)) (by exact (pe_callS F__law_take (hr.mono (by first | decide | omega)) rfl (W.glo 55) k__law_take b__law_take (fun σ => passAt tk σ) (by exact (pa_cons (pv 0) (pa_cons pe_int pa_nil))))) pe_int))
    (pss_cons (ps_if (pt_cmpR op_lt (pv 3) pe_int (nomark _)) (pss_one (ps_ret (pe_ix ix_seq (pv 2) (by exact (pe_callS F__law_take (hr.mono (by first | decide | omega)) rfl (W.glo 55) k__law_take b__law_take (fun σ => passAt tk σ) (by exact (pa_cons (pv 0) (pa_cons (pe_callB call_len (by rfl) (W.free 7) (by decide +kernel) (pa_cons (pv 2) pa_nil)) pa_nil))))) (fun _ _ => rfl)))) pss_nil)
    (pss_cons (ps_par (i := 4) (j := 5) (by rfl) nd rfl rfl (by decide) rfl rfl (pa_cons (by exact (pe_callS F__law_term (hr.mono (by first | decide | omega)) rfl (W.glo 56) k__law_term b__law_term (fun σ => passAt tk σ) (by exact (pa_cons (pv 0) (pa_cons (pe_op op_sub (pv 1) pe_int) (pa_cons (pv 2) pa_nil)))))) (pa_cons (by exact (pe_callS F__law_term (hr.mono (by first | decide | omega)) rfl (W.glo 56) k__law_term b__law_term (fun σ => passAt tk σ) (by exact (pa_cons (pv 0) (pa_cons (pe_op op_sub (pv 1) pe_int) (pa_cons (pv 2) pa_nil)))))) pa_nil)) (by rfl))
    (pss_cons (ps_if (pt_cmpR op_eq (pv 3) pe_int (nomark _)) (pss_one (ps_ret (pe_tup (pa_cons pe_str (pa_cons (pv 4) (pa_cons (pe_tup (pa_cons pe_str (pa_cons (pv 5) pa_nil))) pa_nil)))))) pss_nil)
    (pss_one (ps_ret (pe_ifExp (pt_cmpR op_eq (pv 3) pe_int (nomark _)) (pe_tup (pa_cons pe_str (pa_cons (pv 4) pa_nil))) (pe_ifExp (pt_cmpR op_eq (pv 3) pe_int (nomark _)) (pe_tup (pa_cons pe_str (pa_cons (pv 4) pa_nil))) (pe_tup (pa_cons (pe_ix ix_list (pe_lst (pa_cons pe_str (pa_cons pe_str (pa_cons pe_str pa_nil)))) (pe_op op_sub (pv 3) pe_int) (fun _ _ => rfl)) (pa_cons (pv 4) (pa_cons (pv 5) pa_nil)))))))))))), ?_⟩
    obtain ⟨dr, cs, nm, k, rfl, hk, hD, hn, nne, hq⟩ := h
    clear tk po
    walk_at "x"
    have pick : ∀ (H1 : Hp) (E1 : XK), Kp dr cs H H1 → ∀ R : VK, (∀ v t H', Kp dr cs H H' → Tr K H' v t → t ∈ names5 → R v H') → ∃ x_1, LenV K (V.ref nm) H1 x_1 ∧ spTake1 [V.ref dr, V.int ((x_1 : Nat) : Int)] H1 (fun y H2 => rIx K (V.ref nm) y H2 R) E1 := by
      intro H1 E1 k1 R hR
      obtain ⟨nvs, h1, h2⟩ := (hn.kp hD k1 nne).ex
      have hl := h2.len
      have hl5 : nvs.length = 5 := hl
      refine ⟨nvs.length, len_l h1, dr, cs, _, rfl, by omega, by omega, k1.2, fun m H2 hm fr hD2 => ?_⟩
      have k2 := k1.trans (Kp.of fr hD2)
      have h12 := (Kp.of fr hD2).1 _ _ nne h1
      have h22 := h2.tx ((Kp.of fr hD2).tx k1.2)
      have hml : m < nvs.length := by omega
      obtain ⟨t, ht, hv⟩ := h22.get (List.getElem?_eq_getElem hml)
      exact .inl ⟨nm, nvs, m, nvs[m], rfl, rfl, SqL.of h12, atI_nat (List.getElem?_eq_getElem hml), hR _ t H2 k2 hv (List.mem_of_getElem? ht)⟩
    have names_ok : ∀ t ∈ names5, t.size ≤ lsz k ∧ t.depth ≤ 2 * k + 1 := fun t ht => by
      have h0 : 1 ≤ lsz k := by cases k <;> simp only [lsz] <;> omega
      simp only [names5, List.mem_cons, List.not_mem_nil, or_false] at ht
      rcases ht with rfl | rfl | rfl | rfl | rfl <;> simp only [Te.size, Te.depth] <;> omega
    by_cases hk0 : k = 0
    · subst hk0
      rw [if_neg (by decide), if_pos (by decide)]
      exact pick H _ (Kp.refl hD) _ fun v t H' kp hv ht => hq v t H' kp hv (names_ok t ht).1 (names_ok t ht).2
    · rw [if_pos (by omega)]
      obtain ⟨k, rfl⟩ : ∃ k', k = k' + 1 := ⟨k - 1, by omega⟩
      refine ⟨dr, cs, 9, rfl, by decide, by decide, hD, fun m H1 hm fr hD1 => ⟨_, rfl, ?_⟩⟩
      have k1 := Kp.of fr hD1
      by_cases hm3 : m < 3
      · rw [if_pos (by omega)]
        exact pick H1 _ k1 _ fun v t H' kp hv ht => hq v t H' kp hv (names_ok t ht).1 (names_ok t ht).2
      · rw [if_neg (by omega)]
        have e1 : ((k + 1 : Nat) : Int) - 1 = ((k : Nat) : Int) := by omega
        rw [e1]
        refine ⟨dr, cs, nm, k, rfl, by omega, hD1, hn.kp hD k1 nne, nne, fun v1 t1 H2 k2' hv1 hz1 hd1 => ?_⟩
        have k2 := k1.trans k2'
        refine ⟨dr, cs, nm, k, rfl, by omega, k2.2, hn.kp hD k2 nne, nne, fun v2 t2 H3 k3' hv2 hz2 hd2 => ?_⟩
        have k3 := k2.trans k3'
        have hv1' := Tr.tx (k3'.tx k2.2) hv1
        have le1 : lsz (k + 1) = 2 + 2 * lsz k := rfl
        refine ⟨rfl, ?_⟩
        by_cases h6 : m = 6
        · subst h6
          rw [if_pos (by rfl)]
          refine ⟨by decide, fun p hp => ⟨by decide, fun p1 hp1 => ?_⟩⟩
          have a1 : Tr K _ (.ref p) (.pub t2) := new_tup (K := K) hp (.cons (.str (Str.ofString "pub")) (.cons hv2 .nil))
          have a2 : Tr K _ (.ref p1) (.shut t1 t2) := new_tup (K := K) hp1 (.cons (.str (Str.ofString "shut")) (.cons (Tr.sm (Same.new hp) hv1') (.cons a1 .nil)))
          exact hq _ _ _ ((k3.new hp).new hp1) a2 (by simp only [Te.size]; omega) (by simp only [Te.depth]; omega)
        · rw [if_neg (fun e => h6 (by injection e; omega))]
          refine ⟨rfl, ?_⟩
          by_cases h7 : m = 7
          · subst h7
            rw [if_pos (by rfl)]
            refine ⟨by decide, fun p hp => ?_⟩
            have a1 : Tr K _ (.ref p) (.print t1) := new_tup (K := K) hp (.cons (.str (Str.ofString "print")) (.cons hv1' .nil))
            exact hq _ _ _ (k3.new hp) a1 (by simp only [Te.size]; omega) (by simp only [Te.depth]; omega)
          · rw [if_neg (fun e => h7 (by injection e; omega))]
            refine ⟨rfl, ?_⟩
            by_cases h8 : m = 8
            · subst h8
              rw [if_pos (by rfl)]
              refine ⟨by decide, fun p hp => ?_⟩
              have a1 : Tr K _ (.ref p) (.pub t1) := new_tup (K := K) hp (.cons (.str (Str.ofString "pub")) (.cons hv1' .nil))
              exact hq _ _ _ (k3.new hp) a1 (by simp only [Te.size]; omega) (by simp only [Te.depth]; omega)
            · rw [if_neg (fun e => h8 (by injection e; omega))]
              have hm' : m = 3 ∨ m = 4 ∨ m = 5 := by omega
              refine ⟨by decide, fun p hp => ?_⟩
              have sp := Same.new (o := HO.lst [V.str (Str.ofString "pair"), V.str (Str.ofString "lock"), V.str (Str.ofString "seal")]) hp
              have b1 := Tr.sm sp hv1'
              have b2 := Tr.sm sp hv2
              rcases hm' with rfl | rfl | rfl
              · refine ⟨_, rfl, _, SqL.of upd_same, _, atI_nat (j := 0) rfl, by decide, fun p1 hp1 => ?_⟩
                have a1 : Tr K _ (.ref p1) (.pair t1 t2) := new_tup (K := K) hp1 (.cons (.str (Str.ofString "pair")) (.cons b1 (.cons b2 .nil)))
                exact hq _ _ _ ((k3.new hp).new hp1) a1 (by simp only [Te.size]; omega) (by simp only [Te.depth]; omega)
              · refine ⟨_, rfl, _, SqL.of upd_same, _, atI_nat (j := 1) rfl, by decide, fun p1 hp1 => ?_⟩
                have a1 : Tr K _ (.ref p1) (.lock t1 t2) := new_tup (K := K) hp1 (.cons (.str (Str.ofString "lock")) (.cons b1 (.cons b2 .nil)))
                exact hq _ _ _ ((k3.new hp).new hp1) a1 (by simp only [Te.size]; omega) (by simp only [Te.depth]; omega)
              · refine ⟨_, rfl, _, SqL.of upd_same, _, atI_nat (j := 2) rfl, by decide, fun p1 hp1 => ?_⟩
                have a1 : Tr K _ (.ref p1) (.sea t1 t2) := new_tup (K := K) hp1 (.cons (.str (Str.ofString "seal")) (.cons b1 (.cons b2 .nil)))
                exact hq _ _ _ ((k3.new hp).new hp1) a1 (by simp only [Te.size]; omega) (by simp only [Te.depth]; omega)
theorem o__law_term (W : Wd fa fn K mg) : ∀ n, OkF P w K mg base d__law_term (n + 1) ["draw", "deep", "names"] (spLTerm K n) := by
  intro n
  induction n with
  | zero =>
    refine okf W (d := d__law_term) 38 sc__law_term rfl rfl (fun _ _ _ _ _ _ us hl => match us, hl with | [_, _, _], _ => rfl) ?len (fun cdv A outer s H vs Q E hr nd hu tk po h => ?body)
    case len =>
      rintro vs H Q E ⟨_, _, _, _, rfl, _⟩
      rfl
    case body =>
      obtain ⟨_, _, _, k, _, hk, _⟩ := h
      omega
  | succ n ih => exact term_step n W ih
def sizeOk (ts : List Te) : Prop := ts.length ≤ 5 ∧ ∀ t ∈ ts, t.size ≤ 22 ∧ t.depth ≤ 7
def spLKnowns (K : PySem.W.Frag) : Sp := fun vs H Q _ => ∃ dr cs nm, vs = [.ref dr, .ref nm] ∧ Dr H dr cs ∧ NmAt K H nm ∧ nm ≠ dr ∧ ∀ a xs ts H', Kp dr cs H H' → SqT K H' a xs → Trs K H' xs ts → sizeOk ts → Q (.ref a) H'
theorem o__law_knowns (W : Wd fa fn K mg) : OkF P w K mg base d__law_knowns 6 ["draw", "names"] (spLKnowns K) := by
  have o__law_take := (o__law_take (P := P) (w := w) (base := base) W).mono (show 1 ≤ 5 by decide)
  have o__law_term := (o__law_term (P := P) (w := w) (base := base) W 4).mono (show 4 + 1 ≤ 5 by decide)
  obtain ⟨fd__law_take, F__law_take, b__law_take, k__law_take⟩ := o__law_take.ex; obtain ⟨fd__law_term, F__law_term, b__law_term, k__law_term⟩ := o__law_term.ex
  refine okf W (d := d__law_knowns) 39 sc__law_knowns rfl rfl (fun _ _ _ _ _ _ us hl => match us, hl with | [_, _], _ => rfl) ?len (fun cdv A outer s H vs Q E hr nd hu tk po h => ?body)
  case len =>
    rintro vs H Q E ⟨_, _, _, rfl, _⟩
    rfl
  case body =>
    refine ⟨_, (pss_one (ps_ret (pe_callTy call_tuple_of (by rfl) (W.free 14) (by decide +kernel) (pa_cons (pe_lc (own := [("k", 2)]) (g := (gName 2)) (tt := tYes) rfl nd (pi_range1 rfl (W.free 48) (pa_cons (by exact (pe_callS F__law_take (hr.mono (by first | decide | omega)) rfl (W.glo 55) k__law_take b__law_take (fun σ => passAt tk σ) (by exact (pa_cons (pv 0) (pa_cons pe_int pa_nil))))) pa_nil)) (blkOk_by (own := [("k", 2)]) (N := ["draw", "names", "k"]) (sc := defScope s__law_knowns) (by decide +kernel)) (fun _ _ _ _ _ => (pg_name (i := 2) nd rfl (by first | exact Or.inl rfl | exact Or.inr rfl))) (fun _ _ _ _ _ => pts_nil) (fun _ _ _ _ _ => (pe_call F__law_term (hr.mono (by first | decide | omega)) rfl (W.glo 56) k__law_term b__law_term .nil passL (pa_cons (pv 0) (pa_cons pe_int (pa_cons (pv 1) pa_nil)))))) pa_nil)))), ?_⟩
    obtain ⟨dr, cs, nm, rfl, hD, hn, nne, hq⟩ := h
    clear tk po
    have szl := sizeLine_eq
    walk_at "x"
    refine tLc_made (C := fun J H1 zs => ∃ n : Nat, J = Itr 0 n ∧ n ≤ 5 ∧ Kp dr cs H H1) (fun R hR => ?_) ?_
    · simp only [iRng1]
      walk_at "x"
      exact ⟨dr, cs, 6, rfl, by decide, by decide, hD, fun m H1 hm fr hD1 => ⟨_, rfl, by omega, by omega, hR _ _ [] ⟨m, by simp, by omega, Kp.of fr hD1⟩⟩⟩
    rintro J H1 zs ⟨n, rfl, hn5, k1⟩
    refine tLc_of (walk_range (lo := 0) (n := n)) (H1 := H1) (fun R hR => hR) (fun D i H2 => Kp dr cs H H2 ∧ H1 D = none ∧ ∃ ys ts, H2 D = some (.lst ys) ∧ ys.length = i ∧ Trs K H2 ys ts ∧ ∀ t ∈ ts, t.size ≤ 22 ∧ t.depth ≤ 7) (fun D hDn => ⟨k1.new hDn, hDn, [], [], upd_same, rfl, .nil, (fun _ h => nomatch h)⟩) (fun _ _ _ _ _ => trivial) ?_ ?_
    · rintro D i x H2 H3 hi ⟨k2, hDn, ys, ts, hys, hyl, hyt, hts⟩ ⟨rfl, rfl⟩
      have nD : D ≠ dr := fun e => by
        obtain ⟨ns, p, q, sd, g, _, _⟩ := k1.2
        rw [e, g.d] at hDn; cases hDn
      have hDH : H D = none := by
        cases e : H D with
        | none => rfl
        | some o => rw [k1.1 D o nD e] at hDn; cases hDn
      walk_at "x"
      simp only [tYes, if_true]
      refine ⟨dr, cs, nm, 3, rfl, by decide, k2.2, hn.kp hD k2 nne, nne, fun v t H4 k4' hv hz hd => ?_⟩
      have k4 := k2.trans k4'
      have h4 := k4'.1 _ _ nD hys
      have tX : Tx H4 (upd H4 D (.lst (ys ++ [v]))) := Tx.up h4 noTup_l
      refine ⟨ys, h4, by omega, Kp.mut k4 hD hDH, hDn, ys ++ [v], upd_same, by simp [hyl], ts ++ [t], Trs.snoc ((hyt.tx (k4'.tx k2.2)).tx tX) (Tr.tx tX hv), fun u hu' => ?_⟩
      rcases List.mem_append.mp hu' with h | h
      · exact hts u h
      · rw [List.mem_singleton.mp h]
        exact ⟨hz, hd⟩
    · rintro D H2 ⟨k2, hDn, ys, ts, hys, hyl, hyt, hts⟩
      refine ⟨D, rfl, ys, .inl ⟨SqL.of hys, fun l hl => ?_⟩⟩
      exact hq l ys ts _ (k2.new hl) (SqT.of upd_same) (Trs.sm (Same.new hl) hyt) ⟨by have := hyt.len; omega, hts⟩
end
end WW

set_option maxHeartbeats 4000000
namespace WW
open PySem PySem.Spec PyProof.Rows L2
local macro_rules | `(tactic| walk_at "x") => `(tactic| simp only [tSeq, tNext, tAsg, gName, tRet, tRetN, tIfS, tOp, tUn, rI, rI0, rU, tTest, tB, tAnd, tOr, tNot, tAndV, tOrV, tNotV, tIf, tCons, tNil, tTup, tLst, tCall, tCallS, tMeth, tMake, tFld, sFld, tBM, tBM0, tCB, tSl, tPart, tNoPart, tDrop, tPar, tPar3, tAug, ipI, gTup, gCons, gNil, gSub, rSetL, rAppend, rPop, rIxL, rIxS, rIxT, rEq, rNe, tChain, tNever, tThen, tVar, tC, L2.start, List.map_cons, List.map_nil, List.length_cons, List.length_nil, List.replicate_succ, List.replicate_zero, List.append_nil, List.nil_append, List.cons_append, Nat.reduceAdd, Nat.reduceSub, Nat.add_zero, Nat.zero_add, Nat.sub_zero, Nat.sub_self,
  List.getElem?_cons_zero, List.getElem?_cons_succ, Option.some.injEq, exists_eq_left', exists_eq_left, exists_eq', exists_eq, exists_and_left, List.set_cons_zero, List.set_cons_succ, V.int.injEq, V.bl.injEq, V.str.injEq, V.ref.injEq, V.ty.injEq, List.cons.injEq, and_true, true_and, and_assoc, if_true, if_false, Bool.false_eq_true, reduceCtorEq, false_and, and_false, exists_false, false_or, or_false, Bool.not_true, Bool.not_false, decide_eq_true_eq, ite_true, ite_false, WE, cxOf_K, cxOf_mg, rSlS, scal, wipe, mem_low, mem_dig, mem_brk, mem_brk4, sgn_inj, Bool.decide_eq_true])

def spOddTs (K : PySem.W.Frag) : Sp := fun vs H Q _ => ∃ dr cs, vs = [.ref dr] ∧ Dr H dr cs ∧ ∀ v H', Kp dr cs H H' → OddT K H' v → Q v H'
def spOddT (K : PySem.W.Frag) : Sp := fun vs H Q _ => ∃ dr cs, vs = [.ref dr] ∧ Dr H dr cs ∧ ∀ v H' d, Kp dr cs H H' → Dp K H' v d → okD d → growD 14 80 d = false → Q v H'
def okB (d : PyData) : Bool := okS d && d.canLay0 && (imm d || (partsD d).isNone)
theorem okD_of {d : PyData} (h : okB d = true) : okD d := by
  unfold okB at h
  rw [Bool.and_eq_true, Bool.and_eq_true, Bool.or_eq_true, Option.isNone_iff_eq_none] at h
  exact ⟨h.1.1, h.1.2, h.2⟩
section
variable {P : Program} {w : World} {K : PySem.W.Frag} {mg : Str → Option Value} {base : Heap}
theorem o__law_odd_terms (W : Wd fa fn K mg) : OkF P w K mg base d__law_odd_terms 2 ["draw"] (spOddTs K) := by
  have o__law_take := (o__law_take (P := P) (w := w) (base := base) W)
  obtain ⟨fd__law_take, F__law_take, b__law_take, k__law_take⟩ := o__law_take.ex
  refine okf W (d := d__law_odd_terms) 40 sc__law_odd_terms rfl rfl (fun _ _ _ _ _ _ us hl => match us, hl with | [_], _ => rfl) ?len (fun cdv A outer s H vs Q E hr nd hu tk po h => ?body)
  case len =>
    rintro vs H Q E ⟨_, _, rfl, _⟩
    rfl
  case body =>
    refine ⟨_, (pss_one (ps_ret (pe_ix ix_list (pe_lst (pa_cons (pe_lst pa_nil) (pa_cons pe_non (pa_cons pe_int (pa_cons (pe_tup (pa_cons pe_non pa_nil)) (pa_cons (pe_tup (pa_cons (pe_tup (pa_cons pe_str (pa_cons pe_str pa_nil))) pa_nil)) (pa_cons (pe_tup (pa_cons (pe_tup (pa_cons pe_str pa_nil)) pa_nil)) (pa_cons (pe_tup (pa_cons (pe_tup (pa_cons pe_str (pa_cons (pe_tup (pa_cons pe_str (pa_cons pe_str pa_nil))) (pa_cons (pe_tup (pa_cons pe_str (pa_cons pe_str pa_nil))) pa_nil)))) pa_nil)) (pa_cons (pe_tup (pa_cons (pe_tup (pa_cons pe_str (pa_cons (pe_tup (pa_cons pe_str (pa_cons pe_str pa_nil))) pa_nil))) pa_nil)) (pa_cons (pe_tup (pa_cons pe_str pa_nil)) pa_nil)))))))))) (by exact (pe_callS F__law_take (hr.mono (by first | decide | omega)) rfl (W.glo 55) k__law_take b__law_take (fun σ => passAt tk σ) (by exact (pa_cons (pv 0) (pa_cons pe_int pa_nil))))) (fun _ _ => rfl)))), ?_⟩
    obtain ⟨dr, cs, rfl, hD, hq⟩ := h
    clear tk po
    walk_at "x"
    refine ⟨by decide, fun p0 hp0 => ?_⟩
    have s0 := Same.new (o := HO.lst []) hp0
    have f0 : (upd H p0 (HO.lst [])) p0 = some (HO.lst []) := upd_same
    generalize (upd H p0 (HO.lst [])) = H0 at s0 f0 ⊢
    refine ⟨by decide, fun p1 hp1 => ?_⟩
    have s1 := Same.new (o := HO.tup [V.non]) hp1
    have f1 : (upd H0 p1 (HO.tup [V.non])) p1 = some (HO.tup [V.non]) := upd_same
    generalize (upd H0 p1 (HO.tup [V.non])) = H1 at s1 f1 ⊢
    refine ⟨by decide, fun p2 hp2 => ?_⟩
    have s2 := Same.new (o := HO.tup [V.str (Str.ofString "name"), V.str (Str.ofString "A")]) hp2
    have f2 : (upd H1 p2 (HO.tup [V.str (Str.ofString "name"), V.str (Str.ofString "A")])) p2 = some (HO.tup [V.str (Str.ofString "name"), V.str (Str.ofString "A")]) := upd_same
    generalize (upd H1 p2 (HO.tup [V.str (Str.ofString "name"), V.str (Str.ofString "A")])) = H2 at s2 f2 ⊢
    refine ⟨by decide, fun p3 hp3 => ?_⟩
    have s3 := Same.new (o := HO.tup [V.ref p2]) hp3
    have f3 : (upd H2 p3 (HO.tup [V.ref p2])) p3 = some (HO.tup [V.ref p2]) := upd_same
    generalize (upd H2 p3 (HO.tup [V.ref p2])) = H3 at s3 f3 ⊢
    refine ⟨by decide, fun p4 hp4 => ?_⟩
    have s4 := Same.new (o := HO.tup [V.str (Str.ofString "name")]) hp4
    have f4 : (upd H3 p4 (HO.tup [V.str (Str.ofString "name")])) p4 = some (HO.tup [V.str (Str.ofString "name")]) := upd_same
    generalize (upd H3 p4 (HO.tup [V.str (Str.ofString "name")])) = H4 at s4 f4 ⊢
    refine ⟨by decide, fun p5 hp5 => ?_⟩
    have s5 := Same.new (o := HO.tup [V.ref p4]) hp5
    have f5 : (upd H4 p5 (HO.tup [V.ref p4])) p5 = some (HO.tup [V.ref p4]) := upd_same
    generalize (upd H4 p5 (HO.tup [V.ref p4])) = H5 at s5 f5 ⊢
    refine ⟨by decide, fun p6 hp6 => ?_⟩
    have s6 := Same.new (o := HO.tup [V.str (Str.ofString "name"), V.str (Str.ofString "s")]) hp6
    have f6 : (upd H5 p6 (HO.tup [V.str (Str.ofString "name"), V.str (Str.ofString "s")])) p6 = some (HO.tup [V.str (Str.ofString "name"), V.str (Str.ofString "s")]) := upd_same
    generalize (upd H5 p6 (HO.tup [V.str (Str.ofString "name"), V.str (Str.ofString "s")])) = H6 at s6 f6 ⊢
    refine ⟨by decide, fun p7 hp7 => ?_⟩
    have s7 := Same.new (o := HO.tup [V.str (Str.ofString "name"), V.str (Str.ofString "k")]) hp7
    have f7 : (upd H6 p7 (HO.tup [V.str (Str.ofString "name"), V.str (Str.ofString "k")])) p7 = some (HO.tup [V.str (Str.ofString "name"), V.str (Str.ofString "k")]) := upd_same
    generalize (upd H6 p7 (HO.tup [V.str (Str.ofString "name"), V.str (Str.ofString "k")])) = H7 at s7 f7 ⊢
    refine ⟨by decide, fun p8 hp8 => ?_⟩
    have s8 := Same.new (o := HO.tup [V.str (Str.ofString "shut"), V.ref p6, V.ref p7]) hp8
    have f8 : (upd H7 p8 (HO.tup [V.str (Str.ofString "shut"), V.ref p6, V.ref p7])) p8 = some (HO.tup [V.str (Str.ofString "shut"), V.ref p6, V.ref p7]) := upd_same
    generalize (upd H7 p8 (HO.tup [V.str (Str.ofString "shut"), V.ref p6, V.ref p7])) = H8 at s8 f8 ⊢
    refine ⟨by decide, fun p9 hp9 => ?_⟩
    have s9 := Same.new (o := HO.tup [V.ref p8]) hp9
    have f9 : (upd H8 p9 (HO.tup [V.ref p8])) p9 = some (HO.tup [V.ref p8]) := upd_same
    generalize (upd H8 p9 (HO.tup [V.ref p8])) = H9 at s9 f9 ⊢
    refine ⟨by decide, fun p10 hp10 => ?_⟩
    have s10 := Same.new (o := HO.tup [V.str (Str.ofString "name"), V.str (Str.ofString "s")]) hp10
    have f10 : (upd H9 p10 (HO.tup [V.str (Str.ofString "name"), V.str (Str.ofString "s")])) p10 = some (HO.tup [V.str (Str.ofString "name"), V.str (Str.ofString "s")]) := upd_same
    generalize (upd H9 p10 (HO.tup [V.str (Str.ofString "name"), V.str (Str.ofString "s")])) = H10 at s10 f10 ⊢
    refine ⟨by decide, fun p11 hp11 => ?_⟩
    have s11 := Same.new (o := HO.tup [V.str (Str.ofString "pair"), V.ref p10]) hp11
    have f11 : (upd H10 p11 (HO.tup [V.str (Str.ofString "pair"), V.ref p10])) p11 = some (HO.tup [V.str (Str.ofString "pair"), V.ref p10]) := upd_same
    generalize (upd H10 p11 (HO.tup [V.str (Str.ofString "pair"), V.ref p10])) = H11 at s11 f11 ⊢
    refine ⟨by decide, fun p12 hp12 => ?_⟩
    have s12 := Same.new (o := HO.tup [V.ref p11]) hp12
    have f12 : (upd H11 p12 (HO.tup [V.ref p11])) p12 = some (HO.tup [V.ref p11]) := upd_same
    generalize (upd H11 p12 (HO.tup [V.ref p11])) = H12 at s12 f12 ⊢
    refine ⟨by decide, fun p13 hp13 => ?_⟩
    have s13 := Same.new (o := HO.tup [V.str (Str.ofString "name")]) hp13
    have f13 : (upd H12 p13 (HO.tup [V.str (Str.ofString "name")])) p13 = some (HO.tup [V.str (Str.ofString "name")]) := upd_same
    generalize (upd H12 p13 (HO.tup [V.str (Str.ofString "name")])) = H13 at s13 f13 ⊢
    refine ⟨by decide, fun p14 hp14 => ?_⟩
    have s14 := Same.new (o := HO.lst [V.ref p0, V.non, V.int 0, V.ref p1, V.ref p3, V.ref p5, V.ref p9, V.ref p12, V.ref p13]) hp14
    have f14 : (upd H13 p14 (HO.lst [V.ref p0, V.non, V.int 0, V.ref p1, V.ref p3, V.ref p5, V.ref p9, V.ref p12, V.ref p13])) p14 = some (HO.lst [V.ref p0, V.non, V.int 0, V.ref p1, V.ref p3, V.ref p5, V.ref p9, V.ref p12, V.ref p13]) := upd_same
    generalize (upd H13 p14 (HO.lst [V.ref p0, V.non, V.int 0, V.ref p1, V.ref p3, V.ref p5, V.ref p9, V.ref p12, V.ref p13])) = H14 at s14 f14 ⊢
    have t14 := Same.refl H14
    have t13 := Same.trans s14 t14
    have t12 := Same.trans s13 t13
    have t11 := Same.trans s12 t12
    have t10 := Same.trans s11 t11
    have t9 := Same.trans s10 t10
    have t8 := Same.trans s9 t9
    have t7 := Same.trans s8 t8
    have t6 := Same.trans s7 t7
    have t5 := Same.trans s6 t6
    have t4 := Same.trans s5 t5
    have t3 := Same.trans s4 t4
    have t2 := Same.trans s3 t3
    have t1 := Same.trans s2 t2
    have t0 := Same.trans s1 t1
    have tt := Same.trans s0 t0
    have hD2 := Dr.of_eq tt hD
    obtain ⟨ns, dp, dq, dsd, dg, _, _⟩ := id hD2
    have nd : ∀ {p : Addr} {Hq : Hp}, Hq p = none → (∀ u, H dr = some u → Hq dr = some u) → p ≠ dr := fun {p Hq} hn hs e => by
      obtain ⟨_, _, _, _, g0, _, _⟩ := id hD
      rw [e, hs _ g0.d] at hn; cases hn
    have n0 : p0 ≠ dr := nd hp0 (fun u e => (Same.refl H) _ _ e)
    have q1 := s0
    have n1 : p1 ≠ dr := nd hp1 (fun u e => (q1) _ _ e)
    have q2 := Same.trans q1 s1
    have n2 : p2 ≠ dr := nd hp2 (fun u e => (q2) _ _ e)
    have q3 := Same.trans q2 s2
    have n3 : p3 ≠ dr := nd hp3 (fun u e => (q3) _ _ e)
    have q4 := Same.trans q3 s3
    have n4 : p4 ≠ dr := nd hp4 (fun u e => (q4) _ _ e)
    have q5 := Same.trans q4 s4
    have n5 : p5 ≠ dr := nd hp5 (fun u e => (q5) _ _ e)
    have q6 := Same.trans q5 s5
    have n6 : p6 ≠ dr := nd hp6 (fun u e => (q6) _ _ e)
    have q7 := Same.trans q6 s6
    have n7 : p7 ≠ dr := nd hp7 (fun u e => (q7) _ _ e)
    have q8 := Same.trans q7 s7
    have n8 : p8 ≠ dr := nd hp8 (fun u e => (q8) _ _ e)
    have q9 := Same.trans q8 s8
    have n9 : p9 ≠ dr := nd hp9 (fun u e => (q9) _ _ e)
    have q10 := Same.trans q9 s9
    have n10 : p10 ≠ dr := nd hp10 (fun u e => (q10) _ _ e)
    have q11 := Same.trans q10 s10
    have n11 : p11 ≠ dr := nd hp11 (fun u e => (q11) _ _ e)
    have q12 := Same.trans q11 s11
    have n12 : p12 ≠ dr := nd hp12 (fun u e => (q12) _ _ e)
    have q13 := Same.trans q12 s12
    have n13 : p13 ≠ dr := nd hp13 (fun u e => (q13) _ _ e)
    have q14 := Same.trans q13 s13
    have n14 : p14 ≠ dr := nd hp14 (fun u e => (q14) _ _ e)
    have q15 := Same.trans q14 s14
    refine ⟨dr, cs, 9, rfl, by decide, by decide, hD2, fun m H2 hm fr hD3 => ?_⟩
    have hm9 : m = 0 ∨ m = 1 ∨ m = 2 ∨ m = 3 ∨ m = 4 ∨ m = 5 ∨ m = 6 ∨ m = 7 ∨ m = 8 := by omega
    have k2 : Kp dr cs H H2 := (Kp.same hD tt).trans (Kp.of fr hD3)
    have g0 := (Kp.of fr hD3).1 _ _ n0 (t0 _ _ f0)
    have g1 := (Kp.of fr hD3).1 _ _ n1 (t1 _ _ f1)
    have g2 := (Kp.of fr hD3).1 _ _ n2 (t2 _ _ f2)
    have g3 := (Kp.of fr hD3).1 _ _ n3 (t3 _ _ f3)
    have g4 := (Kp.of fr hD3).1 _ _ n4 (t4 _ _ f4)
    have g5 := (Kp.of fr hD3).1 _ _ n5 (t5 _ _ f5)
    have g6 := (Kp.of fr hD3).1 _ _ n6 (t6 _ _ f6)
    have g7 := (Kp.of fr hD3).1 _ _ n7 (t7 _ _ f7)
    have g8 := (Kp.of fr hD3).1 _ _ n8 (t8 _ _ f8)
    have g9 := (Kp.of fr hD3).1 _ _ n9 (t9 _ _ f9)
    have g10 := (Kp.of fr hD3).1 _ _ n10 (t10 _ _ f10)
    have g11 := (Kp.of fr hD3).1 _ _ n11 (t11 _ _ f11)
    have g12 := (Kp.of fr hD3).1 _ _ n12 (t12 _ _ f12)
    have g13 := (Kp.of fr hD3).1 _ _ n13 (t13 _ _ f13)
    have g14 := (Kp.of fr hD3).1 _ _ n14 (t14 _ _ f14)
    rcases hm9 with rfl | rfl | rfl | rfl | rfl | rfl | rfl | rfl | rfl
    · refine ⟨_, _, rfl, SqL.of g14, _, atI_nat (j := 0) rfl, hq _ H2 k2 ?_⟩
      exact .other (d := .list []) (.lst (SqL.of g0) .nil) rfl
    · refine ⟨_, _, rfl, SqL.of g14, _, atI_nat (j := 1) rfl, hq _ H2 k2 ?_⟩
      exact .other (d := .none) .non rfl
    · refine ⟨_, _, rfl, SqL.of g14, _, atI_nat (j := 2) rfl, hq _ H2 k2 ?_⟩
      exact .other (d := .int 0) (.int 0) rfl
    · refine ⟨_, _, rfl, SqL.of g14, _, atI_nat (j := 3) rfl, hq _ H2 k2 ?_⟩
      exact .known (ds := [.none]) (SqT.of g1) (.cons .non .nil) (fun d hd => okD_of (by rw [List.mem_singleton.mp hd]; decide +kernel)) (by simp) (by decide +kernel)
    · refine ⟨_, _, rfl, SqL.of g14, _, atI_nat (j := 4) rfl, hq _ H2 k2 ?_⟩
      exact .known (ds := [.tuple [.str (Str.ofString "name"), .str (Str.ofString "A")]]) (SqT.of g3) (.cons (.tup (SqT.of g2) (.cons (.str _) (.cons (.str _) .nil))) .nil) (fun d hd => okD_of (by rw [List.mem_singleton.mp hd]; decide +kernel)) (by simp) (by decide +kernel)
    · refine ⟨_, _, rfl, SqL.of g14, _, atI_nat (j := 5) rfl, hq _ H2 k2 ?_⟩
      exact .known (ds := [.tuple [.str (Str.ofString "name")]]) (SqT.of g5) (.cons (.tup (SqT.of g4) (.cons (.str _) .nil)) .nil) (fun d hd => okD_of (by rw [List.mem_singleton.mp hd]; decide +kernel)) (by simp) (by decide +kernel)
    · refine ⟨_, _, rfl, SqL.of g14, _, atI_nat (j := 6) rfl, hq _ H2 k2 ?_⟩
      exact .known (ds := [.tuple [.str (Str.ofString "shut"), .tuple [.str (Str.ofString "name"), .str (Str.ofString "s")], .tuple [.str (Str.ofString "name"), .str (Str.ofString "k")]]]) (SqT.of g9) (.cons (.tup (SqT.of g8) (.cons (.str _) (.cons (.tup (SqT.of g6) (.cons (.str _) (.cons (.str _) .nil))) (.cons (.tup (SqT.of g7) (.cons (.str _) (.cons (.str _) .nil))) .nil)))) .nil) (fun d hd => okD_of (by rw [List.mem_singleton.mp hd]; decide +kernel)) (by simp) (by decide +kernel)
    · refine ⟨_, _, rfl, SqL.of g14, _, atI_nat (j := 7) rfl, hq _ H2 k2 ?_⟩
      exact .known (ds := [.tuple [.str (Str.ofString "pair"), .tuple [.str (Str.ofString "name"), .str (Str.ofString "s")]]]) (SqT.of g12) (.cons (.tup (SqT.of g11) (.cons (.str _) (.cons (.tup (SqT.of g10) (.cons (.str _) (.cons (.str _) .nil))) .nil))) .nil) (fun d hd => okD_of (by rw [List.mem_singleton.mp hd]; decide +kernel)) (by simp) (by decide +kernel)
    · refine ⟨_, _, rfl, SqL.of g14, _, atI_nat (j := 8) rfl, hq _ H2 k2 ?_⟩
      exact .known (ds := [.str (Str.ofString "name")]) (SqT.of g13) (.cons (.str _) .nil) (fun d hd => okD_of (by rw [List.mem_singleton.mp hd]; decide +kernel)) (by simp) (by decide +kernel)
theorem o__law_odd_term (W : Wd fa fn K mg) : OkF P w K mg base d__law_odd_term 2 ["draw"] (spOddT K) := by
  have o__law_take := (o__law_take (P := P) (w := w) (base := base) W)
  obtain ⟨fd__law_take, F__law_take, b__law_take, k__law_take⟩ := o__law_take.ex
  refine okf W (d := d__law_odd_term) 41 sc__law_odd_term rfl rfl (fun _ _ _ _ _ _ us hl => match us, hl with | [_], _ => rfl) ?len (fun cdv A outer s H vs Q E hr nd hu tk po h => ?body)
  case len =>
    rintro vs H Q E ⟨_, _, rfl, _⟩
    rfl
  case body =>
    refine ⟨_, (pss_one (ps_ret (pe_ix ix_list (pe_lst (pa_cons pe_non (pa_cons pe_int (pa_cons (pe_tup pa_nil) (pa_cons (pe_tup (pa_cons pe_str (pa_cons pe_str pa_nil))) (pa_cons (pe_tup (pa_cons pe_str (pa_cons (pe_tup (pa_cons pe_str (pa_cons pe_str pa_nil))) pa_nil))) (pa_cons (pe_lst (pa_cons pe_str (pa_cons pe_str pa_nil))) (pa_cons (pe_tup (pa_cons pe_str (pa_cons (pe_un un_neg pe_int) pa_nil))) (pa_cons (pe_tup (pa_cons pe_str (pa_cons pe_bl pa_nil))) (pa_cons (pe_tup (pa_cons pe_str (pa_cons (pe_tup (pa_cons pe_str (pa_cons pe_str pa_nil))) (pa_cons pe_non pa_nil)))) pa_nil)))))))))) (by exact (pe_callS F__law_take (hr.mono (by first | decide | omega)) rfl (W.glo 55) k__law_take b__law_take (fun σ => passAt tk σ) (by exact (pa_cons (pv 0) (pa_cons pe_int pa_nil))))) (fun _ _ => rfl)))), ?_⟩
    obtain ⟨dr, cs, rfl, hD, hq⟩ := h
    clear tk po
    walk_at "x"
    refine ⟨by decide, fun p0 hp0 => ?_⟩
    have s0 := Same.new (o := HO.tup []) hp0
    have f0 : (upd H p0 (HO.tup [])) p0 = some (HO.tup []) := upd_same
    generalize (upd H p0 (HO.tup [])) = H0 at s0 f0 ⊢
    refine ⟨by decide, fun p1 hp1 => ?_⟩
    have s1 := Same.new (o := HO.tup [V.str (Str.ofString "name"), V.str (Str.ofString "Big")]) hp1
    have f1 : (upd H0 p1 (HO.tup [V.str (Str.ofString "name"), V.str (Str.ofString "Big")])) p1 = some (HO.tup [V.str (Str.ofString "name"), V.str (Str.ofString "Big")]) := upd_same
    generalize (upd H0 p1 (HO.tup [V.str (Str.ofString "name"), V.str (Str.ofString "Big")])) = H1 at s1 f1 ⊢
    refine ⟨by decide, fun p2 hp2 => ?_⟩
    have s2 := Same.new (o := HO.tup [V.str (Str.ofString "name"), V.str (Str.ofString "s")]) hp2
    have f2 : (upd H1 p2 (HO.tup [V.str (Str.ofString "name"), V.str (Str.ofString "s")])) p2 = some (HO.tup [V.str (Str.ofString "name"), V.str (Str.ofString "s")]) := upd_same
    generalize (upd H1 p2 (HO.tup [V.str (Str.ofString "name"), V.str (Str.ofString "s")])) = H2 at s2 f2 ⊢
    refine ⟨by decide, fun p3 hp3 => ?_⟩
    have s3 := Same.new (o := HO.tup [V.str (Str.ofString "pair"), V.ref p2]) hp3
    have f3 : (upd H2 p3 (HO.tup [V.str (Str.ofString "pair"), V.ref p2])) p3 = some (HO.tup [V.str (Str.ofString "pair"), V.ref p2]) := upd_same
    generalize (upd H2 p3 (HO.tup [V.str (Str.ofString "pair"), V.ref p2])) = H3 at s3 f3 ⊢
    refine ⟨by decide, fun p4 hp4 => ?_⟩
    have s4 := Same.new (o := HO.lst [V.str (Str.ofString "name"), V.str (Str.ofString "s")]) hp4
    have f4 : (upd H3 p4 (HO.lst [V.str (Str.ofString "name"), V.str (Str.ofString "s")])) p4 = some (HO.lst [V.str (Str.ofString "name"), V.str (Str.ofString "s")]) := upd_same
    generalize (upd H3 p4 (HO.lst [V.str (Str.ofString "name"), V.str (Str.ofString "s")])) = H4 at s4 f4 ⊢
    refine ⟨by decide, fun p5 hp5 => ?_⟩
    have s5 := Same.new (o := HO.tup [V.str (Str.ofString "own"), V.int (-1)]) hp5
    have f5 : (upd H4 p5 (HO.tup [V.str (Str.ofString "own"), V.int (-1)])) p5 = some (HO.tup [V.str (Str.ofString "own"), V.int (-1)]) := upd_same
    generalize (upd H4 p5 (HO.tup [V.str (Str.ofString "own"), V.int (-1)])) = H5 at s5 f5 ⊢
    refine ⟨by decide, fun p6 hp6 => ?_⟩
    have s6 := Same.new (o := HO.tup [V.str (Str.ofString "own"), V.bl true]) hp6
    have f6 : (upd H5 p6 (HO.tup [V.str (Str.ofString "own"), V.bl true])) p6 = some (HO.tup [V.str (Str.ofString "own"), V.bl true]) := upd_same
    generalize (upd H5 p6 (HO.tup [V.str (Str.ofString "own"), V.bl true])) = H6 at s6 f6 ⊢
    refine ⟨by decide, fun p7 hp7 => ?_⟩
    have s7 := Same.new (o := HO.tup [V.str (Str.ofString "name"), V.str (Str.ofString "s")]) hp7
    have f7 : (upd H6 p7 (HO.tup [V.str (Str.ofString "name"), V.str (Str.ofString "s")])) p7 = some (HO.tup [V.str (Str.ofString "name"), V.str (Str.ofString "s")]) := upd_same
    generalize (upd H6 p7 (HO.tup [V.str (Str.ofString "name"), V.str (Str.ofString "s")])) = H7 at s7 f7 ⊢
    refine ⟨by decide, fun p8 hp8 => ?_⟩
    have s8 := Same.new (o := HO.tup [V.str (Str.ofString "lock"), V.ref p7, V.non]) hp8
    have f8 : (upd H7 p8 (HO.tup [V.str (Str.ofString "lock"), V.ref p7, V.non])) p8 = some (HO.tup [V.str (Str.ofString "lock"), V.ref p7, V.non]) := upd_same
    generalize (upd H7 p8 (HO.tup [V.str (Str.ofString "lock"), V.ref p7, V.non])) = H8 at s8 f8 ⊢
    refine ⟨by decide, fun p9 hp9 => ?_⟩
    have s9 := Same.new (o := HO.lst [V.non, V.int 0, V.ref p0, V.ref p1, V.ref p3, V.ref p4, V.ref p5, V.ref p6, V.ref p8]) hp9
    have f9 : (upd H8 p9 (HO.lst [V.non, V.int 0, V.ref p0, V.ref p1, V.ref p3, V.ref p4, V.ref p5, V.ref p6, V.ref p8])) p9 = some (HO.lst [V.non, V.int 0, V.ref p0, V.ref p1, V.ref p3, V.ref p4, V.ref p5, V.ref p6, V.ref p8]) := upd_same
    generalize (upd H8 p9 (HO.lst [V.non, V.int 0, V.ref p0, V.ref p1, V.ref p3, V.ref p4, V.ref p5, V.ref p6, V.ref p8])) = H9 at s9 f9 ⊢
    have t9 := Same.refl H9
    have t8 := Same.trans s9 t9
    have t7 := Same.trans s8 t8
    have t6 := Same.trans s7 t7
    have t5 := Same.trans s6 t6
    have t4 := Same.trans s5 t5
    have t3 := Same.trans s4 t4
    have t2 := Same.trans s3 t3
    have t1 := Same.trans s2 t2
    have t0 := Same.trans s1 t1
    have tt := Same.trans s0 t0
    have hD2 := Dr.of_eq tt hD
    obtain ⟨ns, dp, dq, dsd, dg, _, _⟩ := id hD2
    have nd : ∀ {p : Addr} {Hq : Hp}, Hq p = none → (∀ u, H dr = some u → Hq dr = some u) → p ≠ dr := fun {p Hq} hn hs e => by
      obtain ⟨_, _, _, _, g0, _, _⟩ := id hD
      rw [e, hs _ g0.d] at hn; cases hn
    have n0 : p0 ≠ dr := nd hp0 (fun u e => (Same.refl H) _ _ e)
    have q1 := s0
    have n1 : p1 ≠ dr := nd hp1 (fun u e => (q1) _ _ e)
    have q2 := Same.trans q1 s1
    have n2 : p2 ≠ dr := nd hp2 (fun u e => (q2) _ _ e)
    have q3 := Same.trans q2 s2
    have n3 : p3 ≠ dr := nd hp3 (fun u e => (q3) _ _ e)
    have q4 := Same.trans q3 s3
    have n4 : p4 ≠ dr := nd hp4 (fun u e => (q4) _ _ e)
    have q5 := Same.trans q4 s4
    have n5 : p5 ≠ dr := nd hp5 (fun u e => (q5) _ _ e)
    have q6 := Same.trans q5 s5
    have n6 : p6 ≠ dr := nd hp6 (fun u e => (q6) _ _ e)
    have q7 := Same.trans q6 s6
    have n7 : p7 ≠ dr := nd hp7 (fun u e => (q7) _ _ e)
    have q8 := Same.trans q7 s7
    have n8 : p8 ≠ dr := nd hp8 (fun u e => (q8) _ _ e)
    have q9 := Same.trans q8 s8
    have n9 : p9 ≠ dr := nd hp9 (fun u e => (q9) _ _ e)
    have q10 := Same.trans q9 s9
    refine ⟨dr, cs, 9, rfl, by decide, by decide, hD2, fun m H2 hm fr hD3 => ?_⟩
    have hm9 : m = 0 ∨ m = 1 ∨ m = 2 ∨ m = 3 ∨ m = 4 ∨ m = 5 ∨ m = 6 ∨ m = 7 ∨ m = 8 := by omega
    have k2 : Kp dr cs H H2 := (Kp.same hD tt).trans (Kp.of fr hD3)
    have g0 := (Kp.of fr hD3).1 _ _ n0 (t0 _ _ f0)
    have g1 := (Kp.of fr hD3).1 _ _ n1 (t1 _ _ f1)
    have g2 := (Kp.of fr hD3).1 _ _ n2 (t2 _ _ f2)
    have g3 := (Kp.of fr hD3).1 _ _ n3 (t3 _ _ f3)
    have g4 := (Kp.of fr hD3).1 _ _ n4 (t4 _ _ f4)
    have g5 := (Kp.of fr hD3).1 _ _ n5 (t5 _ _ f5)
    have g6 := (Kp.of fr hD3).1 _ _ n6 (t6 _ _ f6)
    have g7 := (Kp.of fr hD3).1 _ _ n7 (t7 _ _ f7)
    have g8 := (Kp.of fr hD3).1 _ _ n8 (t8 _ _ f8)
    have g9 := (Kp.of fr hD3).1 _ _ n9 (t9 _ _ f9)
    rcases hm9 with rfl | rfl | rfl | rfl | rfl | rfl | rfl | rfl | rfl
    · refine ⟨_, _, rfl, SqL.of g9, _, atI_nat (j := 0) rfl, hq _ H2 (.none) k2 .non (okD_of (by decide +kernel)) (by decide +kernel)⟩
    · refine ⟨_, _, rfl, SqL.of g9, _, atI_nat (j := 1) rfl, hq _ H2 (.int 0) k2 (.int 0) (okD_of (by decide +kernel)) (by decide +kernel)⟩
    · refine ⟨_, _, rfl, SqL.of g9, _, atI_nat (j := 2) rfl, hq _ H2 (.tuple []) k2 (.tup (SqT.of g0) .nil) (okD_of (by decide +kernel)) (by decide +kernel)⟩
    · refine ⟨_, _, rfl, SqL.of g9, _, atI_nat (j := 3) rfl, hq _ H2 (.tuple [.str (Str.ofString "name"), .str (Str.ofString "Big")]) k2 (.tup (SqT.of g1) (.cons (.str _) (.cons (.str _) .nil))) (okD_of (by decide +kernel)) (by decide +kernel)⟩
    · refine ⟨_, _, rfl, SqL.of g9, _, atI_nat (j := 4) rfl, hq _ H2 (.tuple [.str (Str.ofString "pair"), .tuple [.str (Str.ofString "name"), .str (Str.ofString "s")]]) k2 (.tup (SqT.of g3) (.cons (.str _) (.cons (.tup (SqT.of g2) (.cons (.str _) (.cons (.str _) .nil))) .nil))) (okD_of (by decide +kernel)) (by decide +kernel)⟩
    · refine ⟨_, _, rfl, SqL.of g9, _, atI_nat (j := 5) rfl, hq _ H2 (.list [.str (Str.ofString "name"), .str (Str.ofString "s")]) k2 (.lst (SqL.of g4) (.cons (.str _) (.cons (.str _) .nil))) (okD_of (by decide +kernel)) (by decide +kernel)⟩
    · refine ⟨_, _, rfl, SqL.of g9, _, atI_nat (j := 6) rfl, hq _ H2 (.tuple [.str (Str.ofString "own"), .int (-1)]) k2 (.tup (SqT.of g5) (.cons (.str _) (.cons (.int _) .nil))) (okD_of (by decide +kernel)) (by decide +kernel)⟩
    · refine ⟨_, _, rfl, SqL.of g9, _, atI_nat (j := 7) rfl, hq _ H2 (.tuple [.str (Str.ofString "own"), .bool true]) k2 (.tup (SqT.of g6) (.cons (.str _) (.cons (.bl _) .nil))) (okD_of (by decide +kernel)) (by decide +kernel)⟩
    · refine ⟨_, _, rfl, SqL.of g9, _, atI_nat (j := 8) rfl, hq _ H2 (.tuple [.str (Str.ofString "lock"), .tuple [.str (Str.ofString "name"), .str (Str.ofString "s")], .none]) k2 (.tup (SqT.of g8) (.cons (.str _) (.cons (.tup (SqT.of g7) (.cons (.str _) (.cons (.str _) .nil))) (.cons .non .nil)))) (okD_of (by decide +kernel)) (by decide +kernel)⟩
end
end WW

set_option maxHeartbeats 4000000
namespace WW
open PySem PySem.Spec PyProof.Rows L2
theorem Sub.dep {a t : Te} (h : Sub a t) : a.depth ≤ t.depth := by
  induction h with
  | rfl => exact Nat.le_refl _
  | part hp _ ih => have := part_depth hp; omega
theorem erase_perm : ∀ {l : List Te} {i : Nat} {t : Te}, l[i]? = some t → (t :: l.eraseIdx i).Perm l
  | [], i, t, h => by simp at h
  | u :: l, 0, t, h => by simp at h; subst h; exact List.Perm.refl _
  | u :: l, i + 1, t, h => by
    have := erase_perm (l := l) (i := i) (t := t) (by simpa using h)
    exact (List.Perm.swap u t _).trans (this.cons u)
theorem DpAll.erase {K : PySem.W.Frag} {H : Hp} : ∀ {vs : List V} {ds : List PyData} {i : Nat}, DpAll K H vs ds → DpAll K H (vs.eraseIdx i) (ds.eraseIdx i)
  | [], ds, i, h => by cases h; simpa using DpAll.nil
  | v :: vs, ds, i, h => by
    cases h with
    | cons h1 h2 =>
      cases i with
      | zero => exact h2
      | succ i => exact .cons h1 (DpAll.erase h2)
theorem Trs.erase {K : PySem.W.Frag} {H : Hp} {vs : List V} {ts : List Te} {i : Nat} (h : Trs K H vs ts) : Trs K H (vs.eraseIdx i) (ts.eraseIdx i) := by
  unfold Trs
  have := DpAll.erase (i := i) h
  have e : ∀ (l : List Te) (i : Nat), (l.map Te.enc).eraseIdx i = (l.eraseIdx i).map Te.enc := by
    intro l
    induction l with
    | nil => intro i; simp
    | cons u l ih =>
      intro i
      cases i with
      | zero => simp
      | succ i => simp [ih]
  rwa [e] at this
theorem DpAll.take {K : PySem.W.Frag} {H : Hp} : ∀ {vs : List V} {ds : List PyData} {i : Nat}, DpAll K H vs ds → DpAll K H (vs.take i) (ds.take i)
  | [], ds, i, h => by cases h; simpa using DpAll.nil
  | v :: vs, ds, i, h => by
    cases h with
    | cons h1 h2 =>
      cases i with
      | zero => exact .nil
      | succ i => exact .cons h1 (DpAll.take h2)
theorem Trs.take {K : PySem.W.Frag} {H : Hp} {vs : List V} {ts : List Te} {i : Nat} (h : Trs K H vs ts) : Trs K H (vs.take i) (ts.take i) := by
  unfold Trs
  rw [List.map_take]
  exact DpAll.take h
theorem DpAll.drop {K : PySem.W.Frag} {H : Hp} : ∀ {vs : List V} {ds : List PyData} {i : Nat}, DpAll K H vs ds → DpAll K H (vs.drop i) (ds.drop i)
  | [], ds, i, h => by cases h; simpa using DpAll.nil
  | v :: vs, ds, i, h => by
    cases h with
    | cons h1 h2 =>
      cases i with
      | zero => simpa using DpAll.cons h1 h2
      | succ i => simpa using DpAll.drop (i := i) h2
theorem Trs.drop {K : PySem.W.Frag} {H : Hp} {vs : List V} {ts : List Te} {i : Nat} (h : Trs K H vs ts) : Trs K H (vs.drop i) (ts.drop i) := by
  unfold Trs
  rw [List.map_drop]
  exact DpAll.drop h
theorem tmk {K : PySem.W.Frag} {H : Hp} {p : Addr} {vs : List V} {t : Te} {ds : List PyData} (hp : H p = none) (e : t.enc = .tuple ds) (h : DpAll K H vs ds) : Tr K (upd H p (.tup vs)) (.ref p) t := by
  unfold Tr
  rw [e]
  exact new_tup hp h
theorem walk_iv {n : Nat} : Walk (Itr 0 n) (iv (List.range n)).length (fun _ => True) (YAt (iv (List.range n))) := by
  rw [iv_len, List.length_range]
  refine Walk.mono walk_range (fun _ h => h) fun i H x H' hi _ y => ⟨y.1, ?_⟩
  have e : x = .int (0 + (i : Int)) := y.2
  rw [e, Int.zero_add]
  unfold iv
  rw [List.getElem?_map, List.getElem?_range hi]
  rfl
end WW

set_option maxHeartbeats 4000000
namespace WW
open PySem PySem.Spec PyProof.Rows L2
local macro_rules | `(tactic| walk_at "x") => `(tactic| simp only [tSeq, tNext, tAsg, gName, tRet, tRetN, tIfS, tOp, tUn, rI, rI0, rU, tTest, tB, tAnd, tOr, tNot, tAndV, tOrV, tNotV, tIf, tCons, tNil, tTup, tLst, tCall, tCallS, tMeth, tMake, tFld, sFld, tBM, tBM0, tCB, tSl, tPart, tNoPart, tDrop, tPar, tPar3, tAug, ipI, gTup, gCons, gNil, gSub, rSetL, rAppend, rPop, rIxL, rIxS, rIxT, rEq, rNe, tChain, tNever, tThen, tVar, tC, L2.start, List.map_cons, List.map_nil, List.length_cons, List.length_nil, List.replicate_succ, List.replicate_zero, List.append_nil, List.nil_append, List.cons_append, Nat.reduceAdd, Nat.reduceSub, Nat.add_zero, Nat.zero_add, Nat.sub_zero, Nat.sub_self,
  List.getElem?_cons_zero, List.getElem?_cons_succ, Option.some.injEq, exists_eq_left', exists_eq_left, exists_eq', exists_eq, exists_and_left, List.set_cons_zero, List.set_cons_succ, V.int.injEq, V.bl.injEq, V.str.injEq, V.ref.injEq, V.ty.injEq, List.cons.injEq, and_true, true_and, and_assoc, if_true, if_false, Bool.false_eq_true, reduceCtorEq, false_and, and_false, exists_false, false_or, or_false, Bool.not_true, Bool.not_false, decide_eq_true_eq, ite_true, ite_false, WE, cxOf_K, cxOf_mg, rSlS, scal, wipe, mem_low, mem_dig, mem_brk, mem_brk4, sgn_inj, Bool.decide_eq_true])

def spLChain (K : PySem.W.Frag) : Sp := fun vs H Q _ => ∃ dr cs, vs = [.ref dr] ∧ Dr H dr cs ∧ ∀ q a b xs known m rows ex H', Kp dr cs H H' → SqT K H' q [.ref a, .ref b] → SqT K H' a xs → Trs K H' xs known → SqT K H' b (iv (plc known rows)) →
  2 ≤ m → m ≤ 4 → Chn m rows → (∀ t ∈ ex, t ∈ exs m) → ex.Nodup → known.Perm (rows ++ ex) → ex.length ≤ 3 → Q (.ref q) H'
theorem ky_enc : ∀ i, i < 4 → (kyT i).enc = .tuple [.str (Str.ofString "name"), .str (Str.ofString "k" ++ (toString ((i : Nat) : Int) : String))] := by
  intro i hi
  match i, hi with
  | 0, _ => rw [show Str.ofString "k" ++ Str.ofString (toString ((0 : Nat) : Int)) = Str.ofString "k0" by decide +kernel]; rfl
  | 1, _ => rw [show Str.ofString "k" ++ Str.ofString (toString ((1 : Nat) : Int)) = Str.ofString "k1" by decide +kernel]; rfl
  | 2, _ => rw [show Str.ofString "k" ++ Str.ofString (toString ((2 : Nat) : Int)) = Str.ofString "k2" by decide +kernel]; rfl
  | 3, _ => rw [show Str.ofString "k" ++ Str.ofString (toString ((3 : Nat) : Int)) = Str.ofString "k3" by decide +kernel]; rfl
theorem ky_len : ∀ i, i < 4 → (Str.ofString "k").length + (Str.ofString (toString ((i : Nat) : Int))).length ≤ sizeLine := by
  intro i hi
  match i, hi with
  | 0, _ => decide +kernel
  | 1, _ => decide +kernel
  | 2, _ => decide +kernel
  | 3, _ => decide +kernel
theorem Dr.new {H : Hp} {dr cs p : Addr} (D : Dr H dr cs) (h : H p = none) : p ≠ dr := by
  obtain ⟨ns, p', q, sd, g, _, _⟩ := D
  rintro rfl
  rw [g.d] at h
  cases h
theorem Kp.none {dr cs p : Addr} {H H1 : Hp} (k : Kp dr cs H H1) (n : p ≠ dr) (h : H1 p = none) : H p = none := by
  cases e : H p with
  | none => rfl
  | some o => rw [k.1 p o n e] at h; cases h
def chI (K : PySem.W.Frag) (H : Hp) (dr cs Ka R : Addr) (kvs : List V) (m : Nat) (i : Nat) (σ : L2.St) (H1 : Hp) : Prop := ∃ rvs rows y4, σ = [some (.ref dr), some (.int ((m : Nat) : Int)), some (.ref Ka), some (.ref R), y4, none, none, none] ∧ Kp dr cs H H1 ∧ H1 Ka = some (.lst kvs) ∧ Trs K H1 kvs ((List.range m).map kyT) ∧
  H1 R = some (.lst rvs) ∧ Trs K H1 rvs rows ∧ rows.length = i + 1 ∧ ∀ j r, rows[j]? = some r → Lnk j r
def chI2 (K : PySem.W.Frag) (H : Hp) (dr cs Ka R Lf Kn : Addr) (m : Nat) (y4 : Option V) (rvs : List V) (rws all : List Te) (i : Nat) (σ : L2.St) (H1 : Hp) : Prop := ∃ y7 lvs ls gvs gs, σ = [some (.ref dr), some (.int ((m : Nat) : Int)), some (.ref Ka), some (.ref R), y4, some (.ref Lf), some (.ref Kn), y7] ∧ Kp dr cs H H1 ∧ H1 R = some (.lst rvs) ∧ Trs K H1 rvs rws ∧
  H1 Lf = some (.lst lvs) ∧ Trs K H1 lvs ls ∧ H1 Kn = some (.lst gvs) ∧ Trs K H1 gvs gs ∧ gs.length = i ∧ (gs ++ ls).Perm all
theorem cut_take {xs : List V} {n : Nat} (h : n ≤ xs.length) : cutV xs none (some ((n : Nat) : Int)) = xs.take n := by
  unfold cutV
  rw [HT.sIx_none, HT.sIx_nat, Nat.min_eq_left h]
  simp
theorem ky_size (j : Nat) : (kyT j).size = 1 ∧ (kyT j).depth = 1 := by
  match j with
  | 0 => exact ⟨rfl, rfl⟩
  | 1 => exact ⟨rfl, rfl⟩
  | 2 => exact ⟨rfl, rfl⟩
  | _ + 3 => exact ⟨rfl, rfl⟩
theorem pv_size (j : Nat) : (pvT j).size = 1 ∧ (pvT j).depth = 1 := by
  cases j with
  | zero => exact ⟨rfl, rfl⟩
  | succ j => exact ky_size j
theorem Chn.small {m : Nat} {rows : List Te} (c : Chn m rows) : ∀ t ∈ rows, t.size ≤ 5 ∧ t.depth ≤ 3 := fun t ht => by
  obtain ⟨j, hj, e⟩ := List.getElem_of_mem ht
  have e2 : rows[j]? = some t := by rw [List.getElem?_eq_getElem hj, e]
  have hl := c.len
  have k1 := ky_size j
  have k2 := pv_size j
  have k3 := ky_size (m - 1)
  by_cases q : j = m
  · subst q
    rcases c.lst t e2 with rfl | rfl
    · omega
    · simp only [Te.size, Te.depth]; omega
  · rcases c.lnk j t (by omega) e2 with rfl | rfl | rfl <;> simp only [Te.size, Te.depth] <;> omega
theorem exs_small {m : Nat} : ∀ t ∈ exs m, t.size ≤ 5 ∧ t.depth ≤ 3 := fun t ht => by
  have k3 := ky_size (m - 1)
  unfold exs at ht
  simp only [List.mem_cons, List.not_mem_nil, or_false] at ht
  rcases ht with rfl | rfl | rfl <;> simp only [Te.size, Te.depth] <;> omega
noncomputable def inB (rws gs : List Te) : V → Bool
  | .int i => @decide _ (Classical.propDecidable (gs.getD i.toNat .s ∈ rws))
  | _ => false
theorem plc_iv (gs rws : List Te) : (iv (List.range gs.length)).filter (inB rws gs) = iv (plc gs rws) := by
  unfold iv plc
  rw [List.filter_map]
  congr 1
  apply List.filter_congr
  intro k _
  show @decide _ (Classical.propDecidable (gs.getD ((k : Nat) : Int).toNat .s ∈ rws)) = _
  simp only [Int.toNat_natCast]
  congr
theorem exs_nodup (m : Nat) : (exs m).Nodup := by simp [exs]
section
variable {P : Program} {w : World} {K : PySem.W.Frag} {mg : Str → Option Value} {base : Heap}
theorem o__law_chain (W : Wd fa fn K mg) : OkF P w K mg base d__law_chain 2 ["draw"] (spLChain K) := by
  have o__law_take := (o__law_take (P := P) (w := w) (base := base) W)
  obtain ⟨fd__law_take, F__law_take, b__law_take, k__law_take⟩ := o__law_take.ex
  refine okf W (d := d__law_chain) 43 sc__law_chain rfl rfl (fun _ _ _ _ _ _ us hl => match us, hl with | [_], _ => rfl) ?len (fun cdv A outer s H vs Q E hr nd hu tk po h => ?body)
  case len =>
    rintro vs H Q E ⟨_, _, rfl, _⟩
    rfl
  case body =>
    refine ⟨_, (pss_cons (ps_set (i := 1) nd rfl (by first | exact Or.inl rfl | exact Or.inr rfl) (pe_op op_add pe_int (by exact (pe_callS F__law_take (hr.mono (by first | decide | omega)) rfl (W.glo 55) k__law_take b__law_take (fun σ => passAt tk σ) (by exact (pa_cons (pv 0) (pa_cons pe_int pa_nil)))))))
    (pss_cons (ps_setLc (i := 2) (own := [("k", 4)]) (g := (gName 4)) (tt := tYes) rfl nd rfl rfl (sw_true rfl rfl rfl (by decide +kernel)) (pi_range1 rfl (W.free 48) (pa_cons (pv 1) pa_nil)) (blkOk_by (own := [("k", 4)]) (N := ["draw", "many", "keys", "rows", "k", "left", "known", "turn"]) (sc := defScope s__law_chain) (by decide +kernel)) (fun _ _ _ _ _ => (pg_name (i := 4) nd rfl (by first | exact Or.inl rfl | exact Or.inr rfl))) (fun _ _ _ _ _ => pts_nil) (fun _ _ _ _ _ => (pe_tup (pa_cons pe_str (pa_cons (pe_op op_add_str pe_str (pe_callTy (call_str1 rfl W.dg) (by rfl) (W.free 9) (by decide +kernel) (pa_cons (pv 4) pa_nil))) pa_nil)))))
    (pss_cons (ps_set (i := 3) nd rfl (by first | exact Or.inl rfl | exact Or.inr rfl) (pe_lst (pa_cons (pe_ix ix_list (pe_lst (pa_cons (pe_tup (pa_cons pe_str (pa_cons (pe_tup (pa_cons pe_str (pa_cons pe_str pa_nil))) (pa_cons (pe_ix ix_list (pv 2) pe_int (fun _ _ => rfl)) pa_nil)))) (pa_cons (pe_tup (pa_cons pe_str (pa_cons (pe_tup (pa_cons pe_str (pa_cons pe_str pa_nil))) (pa_cons (pe_tup (pa_cons pe_str (pa_cons (pe_ix ix_list (pv 2) pe_int (fun _ _ => rfl)) pa_nil))) pa_nil)))) pa_nil))) (by exact (pe_callS F__law_take (hr.mono (by first | decide | omega)) rfl (W.glo 55) k__law_take b__law_take (fun σ => passAt tk σ) (by exact (pa_cons (pv 0) (pa_cons pe_int pa_nil))))) (fun _ _ => rfl)) pa_nil)))
    (pss_cons (ps_for po rfl (pi_range1 rfl (W.free 48) (pa_cons (pe_op op_sub (pv 1) pe_int) pa_nil)) (pg_name (i := 4) nd rfl (by first | exact Or.inl rfl | exact Or.inr rfl))
      (pss_one (ps_expr (pe_bm PySem.F.plainAttrs_list PySem.F.slot_list_append PySem.F.type_list_append mt_append (pv 3) (pa_cons (pe_ix ix_list (pe_lst (pa_cons (pe_tup (pa_cons pe_str (pa_cons (pe_ix ix_list (pv 2) (pv 4) (fun _ _ => rfl)) (pa_cons (pe_ix ix_list (pv 2) (pe_op op_add (pv 4) pe_int) (fun _ _ => rfl)) pa_nil)))) (pa_cons (pe_tup (pa_cons pe_str (pa_cons (pe_ix ix_list (pv 2) (pv 4) (fun _ _ => rfl)) (pa_cons (pe_tup (pa_cons pe_str (pa_cons (pe_ix ix_list (pv 2) (pe_op op_add (pv 4) pe_int) (fun _ _ => rfl)) pa_nil))) pa_nil)))) (pa_cons (pe_tup (pa_cons pe_str (pa_cons (pe_tup (pa_cons pe_str (pa_cons pe_str pa_nil))) (pa_cons (pe_tup (pa_cons pe_str (pa_cons (pe_ix ix_list (pv 2) (pv 4) (fun _ _ => rfl)) (pa_cons (pe_ix ix_list (pv 2) (pe_op op_add (pv 4) pe_int) (fun _ _ => rfl)) pa_nil)))) pa_nil)))) pa_nil)))) (by exact (pe_callS F__law_take (hr.mono (by first | decide | omega)) rfl (W.glo 55) k__law_take b__law_take (fun σ => passAt tk σ) (by exact (pa_cons (pv 0) (pa_cons pe_int pa_nil))))) (fun _ _ => rfl)) pa_nil)))))
    (pss_cons (ps_expr (pe_bm PySem.F.plainAttrs_list PySem.F.slot_list_append PySem.F.type_list_append mt_append (pv 3) (pa_cons (pe_ix ix_list (pe_lst (pa_cons (pe_ix ix_list (pv 2) (pe_un un_neg pe_int) (fun _ _ => rfl)) (pa_cons (pe_tup (pa_cons pe_str (pa_cons (pe_ix ix_list (pv 2) (pe_un un_neg pe_int) (fun _ _ => rfl)) (pa_cons (pe_tup (pa_cons pe_str (pa_cons pe_str pa_nil))) pa_nil)))) pa_nil))) (by exact (pe_callS F__law_take (hr.mono (by first | decide | omega)) rfl (W.glo 55) k__law_take b__law_take (fun σ => passAt tk σ) (by exact (pa_cons (pv 0) (pa_cons pe_int pa_nil))))) (fun _ _ => rfl)) pa_nil)))
    (pss_cons (ps_set (i := 5) nd rfl (by first | exact Or.inl rfl | exact Or.inr rfl) (pe_op op_cat (pv 3) (pe_slice sl_list (pe_lst (pa_cons (pe_tup (pa_cons pe_str (pa_cons (pe_tup (pa_cons pe_str (pa_cons pe_str pa_nil))) pa_nil))) (pa_cons (pe_tup (pa_cons pe_str (pa_cons (pe_tup (pa_cons pe_str (pa_cons pe_str pa_nil))) (pa_cons (pe_ix ix_list (pv 2) pe_int (fun _ _ => rfl)) pa_nil)))) (pa_cons (pe_tup (pa_cons pe_str (pa_cons (pe_ix ix_list (pv 2) (pe_un un_neg pe_int) (fun _ _ => rfl)) pa_nil))) pa_nil)))) po_none (po_some (by exact (pe_callS F__law_take (hr.mono (by first | decide | omega)) rfl (W.glo 55) k__law_take b__law_take (fun σ => passAt tk σ) (by exact (pa_cons (pv 0) (pa_cons pe_int pa_nil)))))))))
    (pss_cons (ps_set (i := 6) nd rfl (by first | exact Or.inl rfl | exact Or.inr rfl) (pe_lst pa_nil))
    (pss_cons (ps_for po rfl (pi_range1 rfl (W.free 48) (pa_cons (pe_callB call_len (by rfl) (W.free 7) (by decide +kernel) (pa_cons (pv 5) pa_nil)) pa_nil)) (pg_name (i := 7) nd rfl (by first | exact Or.inl rfl | exact Or.inr rfl))
      (pss_one (ps_expr (pe_bm PySem.F.plainAttrs_list PySem.F.slot_list_append PySem.F.type_list_append mt_append (pv 6) (pa_cons (pe_bm PySem.F.plainAttrs_list PySem.F.slot_list_pop PySem.F.type_list_pop mt_popAt (pv 5) (pa_cons (by exact (pe_callS F__law_take (hr.mono (by first | decide | omega)) rfl (W.glo 55) k__law_take b__law_take (fun σ => passAt tk σ) (by exact (pa_cons (pv 0) (pa_cons (pe_callB call_len (by rfl) (W.free 7) (by decide +kernel) (pa_cons (pv 5) pa_nil)) pa_nil))))) pa_nil)) pa_nil)))))
    (pss_one (ps_ret (pe_tup (pa_cons (pe_callTy call_tuple_of (by rfl) (W.free 14) (by decide +kernel) (pa_cons (pv 6) pa_nil)) (pa_cons (pe_callTy call_tuple_of (by rfl) (W.free 14) (by decide +kernel) (pa_cons (pe_lc (own := [("k", 4)]) (g := (gName 4)) rfl nd (pi_range1 rfl (W.free 48) (pa_cons (pe_callB call_len (by rfl) (W.free 7) (by decide +kernel) (pa_cons (pv 6) pa_nil)) pa_nil)) (blkOk_by (own := [("k", 4)]) (N := ["draw", "many", "keys", "rows", "k", "left", "known", "turn"]) (sc := defScope s__law_chain) (by decide +kernel)) (fun _ _ _ _ _ => (pg_name (i := 4) nd rfl (by first | exact Or.inl rfl | exact Or.inr rfl))) (fun _ _ _ _ _ => (pts_one (pt_cmpR (kOp (K := K) (r := rInT) rfl (op_inT hr.units)) (pe_ix (kIx (K := K) (r := rIxL) rfl ix_list) (pv 6) (pv 4) (fun _ _ => rfl)) (pv 3) (by rfl)))) (fun _ _ _ _ _ => (pv 4))) pa_nil)) pa_nil))))))))))))), ?_⟩
    obtain ⟨dr, cs, rfl, hD, hq⟩ := h
    clear tk po
    have szl := sizeLine_eq
    walk_at "x"
    refine ⟨dr, cs, 3, rfl, by decide, by decide, hD, fun n H1 hn fr hD1 => ?_⟩
    have k1 := Kp.of fr hD1
    obtain ⟨m, hm⟩ : ∃ m : Nat, m = 2 + n := ⟨_, rfl⟩
    have em : (2 : Int) + ((n : Nat) : Int) = ((m : Nat) : Int) := by omega
    have hm4 : m ≤ 4 := by omega
    refine ⟨_, rfl, ?_⟩
    rw [em]
    refine tLc_map (H1 := H1) (walk_iv (n := m)) (by rw [iv_len, List.length_range]; omega) (fun R hR => ?_) (fun _ _ => trivial) (fun _ => rfl) (fun i H y => Tr K H y (kyT i)) (fun i H H' y t h => h.tx t) ?_ ?_
    · simp only [iRng1]
      walk_at "x"
      exact ⟨by omega, by omega, by simpa using hR⟩
    · intro i v H3 R hi hv s3 hR
      rw [iv_len, List.length_range] at hi
      unfold iv at hv
      rw [List.getElem?_map, List.getElem?_range hi] at hv
      cases hv
      walk_at "x"
      have hp43 : (10 : Nat) ^ 1 ≤ 10 ^ 4300 := Nat.pow_le_pow_right (by decide) (by decide)
      refine ⟨_, rfl, ?_, ?_⟩
      · show ((i : Nat) : Int).natAbs < 10 ^ 4300
        omega
      have e4 := ky_enc i (by omega)
      refine ⟨_, rfl, ?_, by decide, fun p hp => hR _ _ (Same.new hp) ?_⟩
      · exact ky_len i (by omega)
      · exact tmk hp e4 (.cons (.str _) (.cons (.str _) .nil))
    intro Ka kvs H2 s2 hKa hK2 hkl hky
    rw [iv_len, List.length_range] at hkl
    have k2 := k1.trans (Kp.same hD1 s2)
    have hkt : Trs K H2 kvs ((List.range m).map kyT) := Trs.of_get (by simp [hkl]) fun i y t h1 h2 => by
      have hi := (List.getElem?_eq_some_iff.mp h1).1
      rw [List.getElem?_map, List.getElem?_range (by omega)] at h2
      cases h2
      exact hky i y h1
    obtain ⟨v0, hv0, tv0⟩ := hkt.at (i := 0) (t := kyT 0) (by rw [List.getElem?_map, List.getElem?_range (by omega)]; rfl)
    have s2H := s2
    clear s2
    walk_at "x"
    refine ⟨by decide, fun p1 hp1 => ?_⟩
    have s1 := Same.new (o := HO.tup [V.str (Str.ofString "name"), V.str (Str.ofString "s")]) hp1
    have t1 : Tr K (upd H2 p1 (HO.tup [V.str (Str.ofString "name"), V.str (Str.ofString "s")])) (.ref p1) (.s) := tmk hp1 rfl (.cons (.str _) (.cons (.str _) .nil))
    generalize (upd H2 p1 (HO.tup [V.str (Str.ofString "name"), V.str (Str.ofString "s")])) = A1 at s1 t1 ⊢
    refine ⟨_, SqL.of (s1 _ _ hK2), v0, atI_nat (j := 0) hv0, ?_⟩
    refine ⟨by decide, fun p2 hp2 => ?_⟩
    have s2 := Same.new (o := HO.tup [V.str (Str.ofString "lock"), .ref p1, v0]) hp2
    have t2 : Tr K (upd A1 p2 (HO.tup [V.str (Str.ofString "lock"), .ref p1, v0])) (.ref p2) (.lock .s .k0) := tmk hp2 rfl (.cons (.str _) (.cons (t1) (.cons (Tr.sm s1 tv0) .nil)))
    generalize (upd A1 p2 (HO.tup [V.str (Str.ofString "lock"), .ref p1, v0])) = A2 at s2 t2 ⊢
    have u2 := Same.trans s1 s2
    refine ⟨by decide, fun p3 hp3 => ?_⟩
    have s3 := Same.new (o := HO.tup [V.str (Str.ofString "name"), V.str (Str.ofString "s")]) hp3
    have t3 : Tr K (upd A2 p3 (HO.tup [V.str (Str.ofString "name"), V.str (Str.ofString "s")])) (.ref p3) (.s) := tmk hp3 rfl (.cons (.str _) (.cons (.str _) .nil))
    generalize (upd A2 p3 (HO.tup [V.str (Str.ofString "name"), V.str (Str.ofString "s")])) = A3 at s3 t3 ⊢
    have u3 := Same.trans u2 s3
    refine ⟨_, SqL.of (u3 _ _ hK2), v0, atI_nat (j := 0) hv0, ?_⟩
    refine ⟨by decide, fun p4 hp4 => ?_⟩
    have s4 := Same.new (o := HO.tup [V.str (Str.ofString "pub"), v0]) hp4
    have t4 : Tr K (upd A3 p4 (HO.tup [V.str (Str.ofString "pub"), v0])) (.ref p4) (.pub .k0) := tmk hp4 rfl (.cons (.str _) (.cons (Tr.sm u3 tv0) .nil))
    generalize (upd A3 p4 (HO.tup [V.str (Str.ofString "pub"), v0])) = A4 at s4 t4 ⊢
    have u4 := Same.trans u3 s4
    refine ⟨by decide, fun p5 hp5 => ?_⟩
    have s5 := Same.new (o := HO.tup [V.str (Str.ofString "shut"), .ref p3, .ref p4]) hp5
    have t5 : Tr K (upd A4 p5 (HO.tup [V.str (Str.ofString "shut"), .ref p3, .ref p4])) (.ref p5) (.shut .s .k0) := tmk hp5 rfl (.cons (.str _) (.cons (Tr.sm s4 t3) (.cons (t4) .nil)))
    generalize (upd A4 p5 (HO.tup [V.str (Str.ofString "shut"), .ref p3, .ref p4])) = A5 at s5 t5 ⊢
    have u5 := Same.trans u4 s5
    refine ⟨by decide, fun p6 hp6 => ?_⟩
    have s6 := Same.new (o := HO.lst [.ref p2, .ref p5]) hp6
    have t6 : (upd A5 p6 (HO.lst [.ref p2, .ref p5])) p6 = some (HO.lst [.ref p2, .ref p5]) := upd_same
    generalize (upd A5 p6 (HO.lst [.ref p2, .ref p5])) = A6 at s6 t6 ⊢
    have u6 := Same.trans u5 s6
    have k6 := k2.trans (Kp.same k2.2 u6)
    have np6 : p6 ≠ dr := Dr.new (k2.trans (Kp.same k2.2 u5)).2 hp6
    refine ⟨dr, cs, 2, rfl, by decide, by decide, k6.2, fun n7 A7 hn7 fr7 hD7 => ?_⟩
    have k67 := Kp.of fr7 hD7
    have k7 := k6.trans k67
    have f6 := k67.1 _ _ np6 t6
    have c2 : Tr K A7 (.ref p2) (.lock .s .k0) := Tr.tx (k67.tx k6.2) (Tr.sm (Same.trans s3 (Same.trans s4 (Same.trans s5 s6))) t2)
    have c5 : Tr K A7 (.ref p5) (.shut .s .k0) := Tr.tx (k67.tx k6.2) (Tr.sm s6 t5)
    obtain ⟨x, t, hx, tx, hL⟩ : ∃ x t, [V.ref p2, V.ref p5][n7]? = some x ∧ Tr K A7 x t ∧ Lnk 0 t := by
      have : n7 = 0 ∨ n7 = 1 := by omega
      rcases this with rfl | rfl
      · exact ⟨_, _, rfl, c2, .inl rfl⟩
      · exact ⟨_, _, rfl, c5, .inr (.inl rfl)⟩
    refine ⟨_, _, rfl, SqL.of f6, x, atI_nat hx, ?_⟩
    refine ⟨by decide, fun R hR => ?_⟩
    have s8 := Same.new (o := HO.lst [x]) hR
    have k8 := k7.new (o := HO.lst [x]) hR
    have nR : R ≠ dr := Dr.new k7.2 hR
    have RH : H R = none := k7.none nR hR
    have nKa : Ka ≠ dr := Dr.new hD1 hKa
    have k27 : Kp dr cs H2 A7 := (Kp.same k2.2 u6).trans k67
    have kKa : (upd A7 R (HO.lst [x])) Ka = some (.lst kvs) := s8 _ _ (k27.1 _ _ nKa hK2)
    have nKR : Ka ≠ R := fun e => by rw [e] at hK2; rw [k27.1 _ _ nR hK2] at hR; cases hR
    have kkt : Trs K (upd A7 R (HO.lst [x])) kvs ((List.range m).map kyT) := Trs.sm s8 (hkt.tx (k27.tx k2.2))
    have rR : (upd A7 R (HO.lst [x])) R = some (.lst [x]) := upd_same
    have rT : Trs K (upd A7 R (HO.lst [x])) [x] [t] := .cons (Tr.sm s8 tx) .nil
    generalize (upd A7 R (HO.lst [x])) = A8 at k8 kKa kkt rR rT ⊢
    refine tFor_same (walk_range (lo := 0) (n := m - 1)) (fun R' hR' => ?_) (chI K H dr cs Ka R kvs m) ⟨[x], [t], _, rfl, k8, kKa, kkt, rR, rT, rfl, fun j r h => ?_⟩ (fun _ _ _ _ _ => trivial) ?_ ?_
    · simp only [iRng1]
      walk_at "x"
      refine ⟨by omega, by omega, ?_⟩
      rw [show (((m : Nat) : Int) - 1).toNat = m - 1 by omega]
      exact hR'
    · cases j with
      | zero => simp at h; rw [← h]; exact hL
      | succ j => simp at h
    · rintro i xi σ B0 B0' hi ⟨rvs, rows, y4, rfl, kb, bKa, bkt, bR, bT, bl, bL⟩ ⟨rfl, rfl⟩
      dsimp only
      rw [Int.zero_add]
      obtain ⟨vi, hvi, tvi⟩ := bkt.at (i := i) (t := kyT i) (by rw [List.getElem?_map, List.getElem?_range (by omega)]; rfl)
      obtain ⟨vj, hvj, tvj⟩ := bkt.at (i := i + 1) (t := kyT (i + 1)) (by rw [List.getElem?_map, List.getElem?_range (by omega)]; rfl)
      have ej : (((i : Nat) : Int) + 1) = ((i + 1 : Nat) : Int) := by omega
      walk_at "x"
      try rw [ej]
      refine ⟨tyLst bR, _, SqL.of bKa, vi, atI_nat hvi, _, SqL.of bKa, vj, atI_nat hvj, ?_⟩
      refine ⟨by decide, fun p11 hp11 => ?_⟩
      have s11 := Same.new (o := HO.tup [V.str (Str.ofString "lock"), vi, vj]) hp11
      have t11 : Tr K (upd B0' p11 (HO.tup [V.str (Str.ofString "lock"), vi, vj])) (.ref p11) (.lock (kyT i) (kyT (i + 1))) := tmk hp11 rfl (.cons (.str _) (.cons (tvi) (.cons (tvj) .nil)))
      generalize (upd B0' p11 (HO.tup [V.str (Str.ofString "lock"), vi, vj])) = B1 at s11 t11 ⊢
      refine ⟨_, SqL.of (s11 _ _ bKa), vi, atI_nat hvi, _, SqL.of (s11 _ _ bKa), vj, atI_nat hvj, ?_⟩
      refine ⟨by decide, fun p12 hp12 => ?_⟩
      have s12 := Same.new (o := HO.tup [V.str (Str.ofString "pub"), vj]) hp12
      have t12 : Tr K (upd B1 p12 (HO.tup [V.str (Str.ofString "pub"), vj])) (.ref p12) (.pub (kyT (i + 1))) := tmk hp12 rfl (.cons (.str _) (.cons (Tr.sm s11 tvj) .nil))
      generalize (upd B1 p12 (HO.tup [V.str (Str.ofString "pub"), vj])) = B2 at s12 t12 ⊢
      have u12 := Same.trans s11 s12
      refine ⟨by decide, fun p13 hp13 => ?_⟩
      have s13 := Same.new (o := HO.tup [V.str (Str.ofString "shut"), vi, .ref p12]) hp13
      have t13 : Tr K (upd B2 p13 (HO.tup [V.str (Str.ofString "shut"), vi, .ref p12])) (.ref p13) (.shut (kyT i) (kyT (i + 1))) := tmk hp13 rfl (.cons (.str _) (.cons (Tr.sm u12 tvi) (.cons (t12) .nil)))
      generalize (upd B2 p13 (HO.tup [V.str (Str.ofString "shut"), vi, .ref p12])) = B3 at s13 t13 ⊢
      have u13 := Same.trans u12 s13
      refine ⟨by decide, fun p14 hp14 => ?_⟩
      have s14 := Same.new (o := HO.tup [V.str (Str.ofString "name"), V.str (Str.ofString "c")]) hp14
      have t14 : Tr K (upd B3 p14 (HO.tup [V.str (Str.ofString "name"), V.str (Str.ofString "c")])) (.ref p14) (.c) := tmk hp14 rfl (.cons (.str _) (.cons (.str _) .nil))
      generalize (upd B3 p14 (HO.tup [V.str (Str.ofString "name"), V.str (Str.ofString "c")])) = B4 at s14 t14 ⊢
      have u14 := Same.trans u13 s14
      refine ⟨_, SqL.of (u14 _ _ bKa), vi, atI_nat hvi, _, SqL.of (u14 _ _ bKa), vj, atI_nat hvj, ?_⟩
      refine ⟨by decide, fun p15 hp15 => ?_⟩
      have s15 := Same.new (o := HO.tup [V.str (Str.ofString "lock"), vi, vj]) hp15
      have t15 : Tr K (upd B4 p15 (HO.tup [V.str (Str.ofString "lock"), vi, vj])) (.ref p15) (.lock (kyT i) (kyT (i + 1))) := tmk hp15 rfl (.cons (.str _) (.cons (Tr.sm u14 tvi) (.cons (Tr.sm u14 tvj) .nil)))
      generalize (upd B4 p15 (HO.tup [V.str (Str.ofString "lock"), vi, vj])) = B5 at s15 t15 ⊢
      have u15 := Same.trans u14 s15
      refine ⟨by decide, fun p16 hp16 => ?_⟩
      have s16 := Same.new (o := HO.tup [V.str (Str.ofString "pair"), .ref p14, .ref p15]) hp16
      have t16 : Tr K (upd B5 p16 (HO.tup [V.str (Str.ofString "pair"), .ref p14, .ref p15])) (.ref p16) (.pair .c (.lock (kyT i) (kyT (i + 1)))) := tmk hp16 rfl (.cons (.str _) (.cons (Tr.sm s15 t14) (.cons (t15) .nil)))
      generalize (upd B5 p16 (HO.tup [V.str (Str.ofString "pair"), .ref p14, .ref p15])) = B6 at s16 t16 ⊢
      have u16 := Same.trans u15 s16
      refine ⟨by decide, fun p17 hp17 => ?_⟩
      have s17 := Same.new (o := HO.lst [.ref p11, .ref p13, .ref p16]) hp17
      have t17 : (upd B6 p17 (HO.lst [.ref p11, .ref p13, .ref p16])) p17 = some (HO.lst [.ref p11, .ref p13, .ref p16]) := upd_same
      generalize (upd B6 p17 (HO.lst [.ref p11, .ref p13, .ref p16])) = B7 at s17 t17 ⊢
      have u17 := Same.trans u16 s17
      have kb17 := kb.trans (Kp.same kb.2 u17)
      have np17 : p17 ≠ dr := Dr.new (kb.trans (Kp.same kb.2 u16)).2 hp17
      refine ⟨dr, cs, 3, rfl, by decide, by decide, kb17.2, fun n8 B8 hn8 fr8 hD8 => ?_⟩
      have k78 := Kp.of fr8 hD8
      have kb8 := kb17.trans k78
      have kb08 := (Kp.same kb.2 u17).trans k78
      have f17 := k78.1 _ _ np17 t17
      have T78 := k78.tx kb17.2
      have c11 : Tr K B8 (.ref p11) (.lock (kyT i) (kyT (i + 1))) := Tr.tx T78 (Tr.sm (Same.trans s12 (Same.trans s13 (Same.trans s14 (Same.trans s15 (Same.trans s16 s17))))) t11)
      have c13 : Tr K B8 (.ref p13) (.shut (kyT i) (kyT (i + 1))) := Tr.tx T78 (Tr.sm (Same.trans s14 (Same.trans s15 (Same.trans s16 s17))) t13)
      have c16 : Tr K B8 (.ref p16) (.pair .c (.lock (kyT i) (kyT (i + 1)))) := Tr.tx T78 (Tr.sm s17 t16)
      obtain ⟨y, t2, hy, ty, hL2⟩ : ∃ y t2, [V.ref p11, V.ref p13, V.ref p16][n8]? = some y ∧ Tr K B8 y t2 ∧ Lnk (i + 1) t2 := by
        have : n8 = 0 ∨ n8 = 1 ∨ n8 = 2 := by omega
        rcases this with rfl | rfl | rfl
        · exact ⟨_, _, rfl, c11, .inl rfl⟩
        · exact ⟨_, _, rfl, c13, .inr (.inl rfl)⟩
        · exact ⟨_, _, rfl, c16, .inr (.inr rfl)⟩
      have R8 := kb08.1 _ _ nR bR
      have Ka8 := kb08.1 _ _ nKa bKa
      have kt8 := bkt.tx (kb08.tx kb.2)
      have rt8 := bT.tx (kb08.tx kb.2)
      have brl := bT.len
      have tX : Tx B8 (upd B8 R (.lst (rvs ++ [y]))) := Tx.up R8 noTup_l
      refine ⟨_, _, rfl, SqL.of f17, y, atI_nat hy, rvs, R8, by omega, ?_⟩
      refine ⟨rvs ++ [y], rows ++ [t2], _, rfl, Kp.mut kb8 hD RH, by rw [upd_ne nKR]; exact Ka8, kt8.tx tX, upd_same, Trs.snoc (rt8.tx tX) (Tr.tx tX ty), by simp [bl], fun j r h => ?_⟩
      by_cases hj : j < rows.length
      · rw [List.getElem?_append_left hj] at h
        exact bL j r h
      · rw [List.getElem?_append_right (by omega)] at h
        have hj2 : j = i + 1 := by
          have := (List.getElem?_eq_some_iff.mp h).1
          simp at this
          omega
        subst hj2
        rw [show i + 1 - rows.length = 0 by omega] at h
        simp at h
        rw [← h]
        exact hL2
    · rintro σ B0 ⟨rvs, rows, y4, rfl, kb, bKa, bkt, bR, bT, bl, bL⟩
      dsimp only
      walk_at "x"
      obtain ⟨vz, hvz, tvz⟩ := bkt.at (i := m - 1) (t := kyT (m - 1)) (by rw [List.getElem?_map, List.getElem?_range (by omega)]; rfl)
      have hvz2 : kvs[kvs.length - 1]? = some vz := by rw [hkl]; exact hvz
      refine ⟨tyLst bR, _, SqL.of bKa, vz, atI_end hvz2, _, SqL.of bKa, vz, atI_end hvz2, ?_⟩
      refine ⟨by decide, fun p21 hp21 => ?_⟩
      have s21 := Same.new (o := HO.tup [V.str (Str.ofString "name"), V.str (Str.ofString "m")]) hp21
      have t21 : Tr K (upd B0 p21 (HO.tup [V.str (Str.ofString "name"), V.str (Str.ofString "m")])) (.ref p21) (.m) := tmk hp21 rfl (.cons (.str _) (.cons (.str _) .nil))
      generalize (upd B0 p21 (HO.tup [V.str (Str.ofString "name"), V.str (Str.ofString "m")])) = C1 at s21 t21 ⊢
      refine ⟨by decide, fun p22 hp22 => ?_⟩
      have s22 := Same.new (o := HO.tup [V.str (Str.ofString "seal"), vz, .ref p21]) hp22
      have t22 : Tr K (upd C1 p22 (HO.tup [V.str (Str.ofString "seal"), vz, .ref p21])) (.ref p22) (.sea (kyT (m - 1)) .m) := tmk hp22 rfl (.cons (.str _) (.cons (Tr.sm s21 tvz) (.cons (t21) .nil)))
      generalize (upd C1 p22 (HO.tup [V.str (Str.ofString "seal"), vz, .ref p21])) = C2 at s22 t22 ⊢
      have u22 := Same.trans s21 s22
      refine ⟨by decide, fun p23 hp23 => ?_⟩
      have s23 := Same.new (o := HO.lst [vz, .ref p22]) hp23
      have t23 : (upd C2 p23 (HO.lst [vz, .ref p22])) p23 = some (HO.lst [vz, .ref p22]) := upd_same
      generalize (upd C2 p23 (HO.lst [vz, .ref p22])) = C3 at s23 t23 ⊢
      have u23 := Same.trans u22 s23
      have kb23 := kb.trans (Kp.same kb.2 u23)
      have np23 : p23 ≠ dr := Dr.new (kb.trans (Kp.same kb.2 u22)).2 hp23
      refine ⟨dr, cs, 2, rfl, by decide, by decide, kb23.2, fun n8 B8 hn8 fr8 hD8 => ?_⟩
      have k78 := Kp.of fr8 hD8
      have kb8 := kb23.trans k78
      have kb08 := (Kp.same kb.2 u23).trans k78
      have f23 := k78.1 _ _ np23 t23
      have T78 := k78.tx kb23.2
      have kt8 := bkt.tx (kb08.tx kb.2)
      have rt8 := bT.tx (kb08.tx kb.2)
      have cz : Tr K B8 vz (kyT (m - 1)) := Tr.tx (kb08.tx kb.2) tvz
      have c22 : Tr K B8 (.ref p22) (.sea (kyT (m - 1)) .m) := Tr.tx T78 (Tr.sm s23 t22)
      obtain ⟨y, t2, hy, ty, hL2⟩ : ∃ y t2, [vz, V.ref p22][n8]? = some y ∧ Tr K B8 y t2 ∧ Lst m t2 := by
        have : n8 = 0 ∨ n8 = 1 := by omega
        rcases this with rfl | rfl
        · exact ⟨_, _, rfl, cz, .inl rfl⟩
        · exact ⟨_, _, rfl, c22, .inr rfl⟩
      have R8 := kb08.1 _ _ nR bR
      have Ka8 := kb08.1 _ _ nKa bKa
      have brl := bT.len
      have tX : Tx B8 (upd B8 R (.lst (rvs ++ [y]))) := Tx.up R8 noTup_l
      refine ⟨_, _, rfl, SqL.of f23, y, atI_nat hy, rvs, R8, by omega, ?_⟩
      have chn : Chn m (rows ++ [t2]) := ⟨by simp [bl]; omega, fun j r hj h => ?_, fun r h => ?_⟩
      rotate_left
      · rw [List.getElem?_append_left (by omega)] at h
        exact bL j r h
      · rw [List.getElem?_append_right (by omega), show m - rows.length = 0 by omega] at h
        simp at h
        rw [← h]; exact hL2
      have kbE := Kp.mut (o := .lst (rvs ++ [y])) kb8 hD RH
      have KaE : (upd B8 R (.lst (rvs ++ [y]))) Ka = some (.lst kvs) := by rw [upd_ne nKR]; exact Ka8
      have ktE := kt8.tx tX
      have RE : (upd B8 R (.lst (rvs ++ [y]))) R = some (.lst (rvs ++ [y])) := upd_same
      have rtE : Trs K (upd B8 R (.lst (rvs ++ [y]))) (rvs ++ [y]) (rows ++ [t2]) := Trs.snoc (rt8.tx tX) (Tr.tx tX ty)
      have zE : Tr K (upd B8 R (.lst (rvs ++ [y]))) vz (kyT (m - 1)) := Tr.tx tX cz
      generalize (upd B8 R (.lst (rvs ++ [y]))) = D0 at kbE KaE ktE RE rtE zE ⊢
      have rlen : (rows ++ [t2]).length = m + 1 := chn.len
      generalize rows ++ [t2] = rws at chn rtE rlen
      generalize rvs ++ [y] = rvs2 at RE rtE
      obtain ⟨v0, hv0, tv0⟩ := ktE.at (i := 0) (t := kyT 0) (by rw [List.getElem?_map, List.getElem?_range (by omega)]; rfl)
      refine ⟨by decide, fun p31 hp31 => ?_⟩
      have s31 := Same.new (o := HO.tup [V.str (Str.ofString "name"), V.str (Str.ofString "s")]) hp31
      have t31 : Tr K (upd D0 p31 (HO.tup [V.str (Str.ofString "name"), V.str (Str.ofString "s")])) (.ref p31) (.s) := tmk hp31 rfl (.cons (.str _) (.cons (.str _) .nil))
      generalize (upd D0 p31 (HO.tup [V.str (Str.ofString "name"), V.str (Str.ofString "s")])) = D1 at s31 t31 ⊢
      refine ⟨by decide, fun p32 hp32 => ?_⟩
      have s32 := Same.new (o := HO.tup [V.str (Str.ofString "print"), .ref p31]) hp32
      have t32 : Tr K (upd D1 p32 (HO.tup [V.str (Str.ofString "print"), .ref p31])) (.ref p32) (.print .s) := tmk hp32 rfl (.cons (.str _) (.cons (t31) .nil))
      generalize (upd D1 p32 (HO.tup [V.str (Str.ofString "print"), .ref p31])) = D2 at s32 t32 ⊢
      have u32 := Same.trans s31 s32
      refine ⟨by decide, fun p33 hp33 => ?_⟩
      have s33 := Same.new (o := HO.tup [V.str (Str.ofString "name"), V.str (Str.ofString "m")]) hp33
      have t33 : Tr K (upd D2 p33 (HO.tup [V.str (Str.ofString "name"), V.str (Str.ofString "m")])) (.ref p33) (.m) := tmk hp33 rfl (.cons (.str _) (.cons (.str _) .nil))
      generalize (upd D2 p33 (HO.tup [V.str (Str.ofString "name"), V.str (Str.ofString "m")])) = D3 at s33 t33 ⊢
      have u33 := Same.trans u32 s33
      refine ⟨_, SqL.of (u33 _ _ KaE), v0, atI_nat (j := 0) hv0, ?_⟩
      refine ⟨by decide, fun p34 hp34 => ?_⟩
      have s34 := Same.new (o := HO.tup [V.str (Str.ofString "lock"), .ref p33, v0]) hp34
      have t34 : Tr K (upd D3 p34 (HO.tup [V.str (Str.ofString "lock"), .ref p33, v0])) (.ref p34) (.lock .m .k0) := tmk hp34 rfl (.cons (.str _) (.cons (t33) (.cons (Tr.sm u33 tv0) .nil)))
      generalize (upd D3 p34 (HO.tup [V.str (Str.ofString "lock"), .ref p33, v0])) = D4 at s34 t34 ⊢
      have u34 := Same.trans u33 s34
      refine ⟨_, SqL.of (u34 _ _ KaE), vz, atI_end hvz2, ?_⟩
      refine ⟨by decide, fun p35 hp35 => ?_⟩
      have s35 := Same.new (o := HO.tup [V.str (Str.ofString "pub"), vz]) hp35
      have t35 : Tr K (upd D4 p35 (HO.tup [V.str (Str.ofString "pub"), vz])) (.ref p35) (.pub (kyT (m - 1))) := tmk hp35 rfl (.cons (.str _) (.cons (Tr.sm u34 zE) .nil))
      generalize (upd D4 p35 (HO.tup [V.str (Str.ofString "pub"), vz])) = D5 at s35 t35 ⊢
      have u35 := Same.trans u34 s35
      refine ⟨by decide, fun p36 hp36 => ?_⟩
      have s36 := Same.new (o := HO.lst [.ref p32, .ref p34, .ref p35]) hp36
      have t36 : (upd D5 p36 (HO.lst [.ref p32, .ref p34, .ref p35])) p36 = some (HO.lst [.ref p32, .ref p34, .ref p35]) := upd_same
      generalize (upd D5 p36 (HO.lst [.ref p32, .ref p34, .ref p35])) = D6 at s36 t36 ⊢
      have u36 := Same.trans u35 s36
      have kb36 := kbE.trans (Kp.same kbE.2 u36)
      have np36 : p36 ≠ dr := Dr.new (kbE.trans (Kp.same kbE.2 u35)).2 hp36
      refine ⟨dr, cs, 4, rfl, by decide, by decide, kb36.2, fun n9 D7 hn9 fr9 hD9 => ?_⟩
      have k67 := Kp.of fr9 hD9
      have kD7 := kb36.trans k67
      have kE7 := (Kp.same kbE.2 u36).trans k67
      have f36 := k67.1 _ _ np36 t36
      have T67 := k67.tx kb36.2
      have R7 := kE7.1 _ _ nR RE
      have rt7 := rtE.tx (kE7.tx kbE.2)
      have e3 : Trs K D7 [.ref p32, .ref p34, .ref p35] (exs m) := .cons (Tr.tx T67 (Tr.sm (Same.trans s33 (Same.trans s34 (Same.trans s35 s36))) t32)) (.cons (Tr.tx T67 (Tr.sm (Same.trans s35 s36) t34)) (.cons (Tr.tx T67 (Tr.sm s36 t35)) .nil))
      have n9le : n9 ≤ 3 := by omega
      refine ⟨_, rfl, p36, _, rfl, SqL.of f36, fun p41 hp41 => ?_⟩
      rw [cut_take (show n9 ≤ [V.ref p32, .ref p34, .ref p35].length from n9le)]
      have s41 := Same.new (o := HO.lst ([V.ref p32, .ref p34, .ref p35].take n9)) hp41
      have k41 := kD7.new (o := HO.lst ([V.ref p32, .ref p34, .ref p35].take n9)) hp41
      have rvl := rtE.len
      have tkl : ([V.ref p32, .ref p34, .ref p35].take n9).length ≤ 3 := by rw [List.length_take]; exact Nat.min_le_right ..
      refine ⟨R, p41, rvs2, _, rfl, rfl, s41 _ _ R7, upd_same, by omega, fun Lf hLf => ?_⟩
      have s42 := Same.new (o := HO.lst (rvs2 ++ [V.ref p32, .ref p34, .ref p35].take n9)) hLf
      have k42 := k41.new (o := HO.lst (rvs2 ++ [V.ref p32, .ref p34, .ref p35].take n9)) hLf
      have s412 := Same.trans s41 s42
      have lt42 : Trs K (upd (upd D7 p41 (HO.lst ([V.ref p32, .ref p34, .ref p35].take n9))) Lf (HO.lst (rvs2 ++ [V.ref p32, .ref p34, .ref p35].take n9))) (rvs2 ++ [V.ref p32, .ref p34, .ref p35].take n9) (rws ++ (exs m).take n9) := Trs.app (Trs.sm s412 rt7) (Trs.sm s412 e3.take)
      have R42 := s412 _ _ R7
      have rt42 := Trs.sm s412 rt7
      have nLf : Lf ≠ dr := Dr.new k41.2 hLf
      have LfH : H Lf = none := k41.none nLf hLf
      have nLR : Lf ≠ R := fun e => by rw [e, s41 _ _ R7] at hLf; cases hLf
      have Lf42 : (upd (upd D7 p41 (HO.lst ([V.ref p32, .ref p34, .ref p35].take n9))) Lf (HO.lst (rvs2 ++ [V.ref p32, .ref p34, .ref p35].take n9))) Lf = some (HO.lst (rvs2 ++ [V.ref p32, .ref p34, .ref p35].take n9)) := upd_same
      have exl : ((exs m).take n9).length ≤ 3 := by rw [List.length_take]; exact Nat.min_le_right ..
      have exm : ∀ t ∈ (exs m).take n9, t ∈ exs m := fun t ht => List.mem_of_mem_take ht
      have exn : ((exs m).take n9).Nodup := (exs_nodup m).sublist (List.take_sublist ..)
      generalize (exs m).take n9 = ex at lt42 exl exm exn
      generalize (upd (upd D7 p41 (HO.lst ([V.ref p32, .ref p34, .ref p35].take n9))) Lf (HO.lst (rvs2 ++ [V.ref p32, .ref p34, .ref p35].take n9))) = E0' at s42 k42 s412 lt42 R42 rt42 Lf42 ⊢
      generalize rvs2 ++ [V.ref p32, .ref p34, .ref p35].take n9 = lvs0 at lt42 Lf42
      refine ⟨by decide, fun Kn hKn => ?_⟩
      have s43 := Same.new (o := HO.lst []) hKn
      have k43 := k42.new (o := HO.lst []) hKn
      have nKn : Kn ≠ dr := Dr.new k42.2 hKn
      have KnH : H Kn = none := k42.none nKn hKn
      have nKnR : Kn ≠ R := fun e => by rw [e, R42] at hKn; cases hKn
      have nKnL : Kn ≠ Lf := fun e => by rw [e, Lf42] at hKn; cases hKn
      have all : ∀ t ∈ rws ++ ex, t.ok := fun t ht => by
        have : t.size ≤ 5 ∧ t.depth ≤ 3 := by
          rcases List.mem_append.mp ht with h | h
          · exact chn.small t h
          · exact exs_small t (exm t h)
        exact ⟨by omega, by omega⟩
      have hN : (rws ++ ex).length ≤ 8 := by rw [List.length_append]; omega
      have lvl := lt42.len
      refine tFor_same (walk_range (lo := 0) (n := (rws ++ ex).length)) (fun R' hR' => ?_) (chI2 K H dr cs Ka R Lf Kn m _ rvs2 rws (rws ++ ex)) ⟨_, lvs0, rws ++ ex, [], [], rfl, k43, s43 _ _ R42, Trs.sm s43 rt42, s43 _ _ Lf42, Trs.sm s43 lt42, upd_same, .nil, rfl, List.Perm.refl _⟩ (fun _ _ _ _ _ => trivial) ?_ ?_
      · simp only [iRng1]
        walk_at "x"
        refine ⟨lvs0.length, len_l (s43 _ _ Lf42), by omega, by omega, ?_⟩
        rw [show ((lvs0.length : Nat) : Int).toNat = (rws ++ ex).length by omega]
        exact hR'
      · rintro i xi σ B0 B0' hi ⟨y7, lvs, ls, gvs, gs, rfl, kb, bR, bT, bL, bLt, bK, bKt, bl, bp⟩ ⟨rfl, rfl⟩
        dsimp only
        rw [Int.zero_add]
        walk_at "x"
        have bpl := bp.length_eq
        rw [List.length_append (as := gs)] at bpl
        have lsl := bLt.len
        have gsl := bKt.len
        refine ⟨tyLst bK, tyLst bL, lvs.length, len_l bL, dr, cs, _, rfl, by omega, by omega, kb.2, fun n B1 hn1 fr1 hD1' => ?_⟩
        have k01 := Kp.of fr1 hD1'
        have kb1 := kb.trans k01
        have T01 := k01.tx kb.2
        have bL1 := k01.1 _ _ nLf bL
        have bK1 := k01.1 _ _ nKn bK
        have bR1 := k01.1 _ _ nR bR
        obtain ⟨t, ht⟩ : ∃ t, ls[n]? = some t := ⟨_, List.getElem?_eq_getElem (by omega)⟩
        have Lt1 := bLt.tx T01
        have Kt1 := bKt.tx T01
        have Rt1 := bT.tx T01
        obtain ⟨v, hv, tv⟩ := Lt1.at ht
        refine ⟨Lf, lvs, _, n, v, rfl, rfl, bL1, by omega, by omega, by rw [seqIndex_of (by omega) (by omega)]; simp, hv, ?_⟩
        have X2 : Tx B1 (upd B1 Lf (.lst (lvs.eraseIdx n))) := Tx.up bL1 noTup_l
        have bK2 : (upd B1 Lf (.lst (lvs.eraseIdx n))) Kn = some (.lst gvs) := by rw [upd_ne nKnL]; exact bK1
        have X3 : Tx (upd B1 Lf (.lst (lvs.eraseIdx n))) (upd (upd B1 Lf (.lst (lvs.eraseIdx n))) Kn (.lst (gvs ++ [v]))) := Tx.up bK2 noTup_l
        have X := X2.trans X3
        refine ⟨gvs, bK2, by omega, _, lvs.eraseIdx n, ls.eraseIdx n, gvs ++ [v], gs ++ [t], rfl, Kp.mut (Kp.mut kb1 hD LfH) hD KnH, ?_, Rt1.tx X, ?_, (Trs.erase Lt1).tx X, upd_same, Trs.snoc (Kt1.tx X) (Tr.tx X tv), by simp [bl], ?_⟩
        · rw [upd_ne nKnR.symm, upd_ne nLR.symm]; exact bR1
        · rw [upd_ne nKnL.symm, upd_same]
        · rw [List.append_assoc]
          exact ((erase_perm ht).append_left gs).trans bp
      · rintro σ B0 ⟨y7, lvs, ls, gvs, gs, rfl, kb, bR, bT, bL, bLt, bK, bKt, bl, bp⟩
        dsimp only
        walk_at "x"
        have bpl := bp.length_eq
        rw [List.length_append (as := gs)] at bpl
        have lsl := bLt.len
        have gsl := bKt.len
        have els : ls = [] := List.length_eq_zero_iff.mp (by omega)
        subst els
        rw [List.append_nil] at bp
        refine ⟨gvs, .inl ⟨SqL.of bK, fun la hla => ?_⟩⟩
        have sa := Same.new (o := HO.tup gvs) hla
        have bK2 := sa _ _ bK
        have bR2 := sa _ _ bR
        have T2 := Trs.sm sa bT
        have Kt2 := Trs.sm sa bKt
        have la2 : (upd B0 la (HO.tup gvs)) la = some (.tup gvs) := upd_same
        generalize (upd B0 la (HO.tup gvs)) = B1 at sa bK2 bR2 T2 Kt2 la2 ⊢
        refine tLc_filtV (H1 := B1) (walk_iv (n := gs.length)) (by rw [iv_len, List.length_range]; omega) (fun R' hR' => ?_) (fun _ _ => trivial) (fun _ => rfl) (fun _ => rfl) (inB rws gs) ?_ ?_
        · simp only [iRng1]
          walk_at "x"
          exact ⟨gvs.length, len_l bK2, by omega, by omega, by rw [show ((gvs.length : Nat) : Int).toNat = gs.length by omega]; exact hR'⟩
        · intro v B2 R' hv s12 hR'
          unfold iv at hv
          obtain ⟨k, hk, rfl⟩ := List.mem_map.mp hv
          have hk := List.mem_range.mp hk
          obtain ⟨u, hu, tu⟩ := (Trs.sm s12 Kt2).at (getD_at hk)
          walk_at "x"
          have okk : (gs.getD k .s).ok := all _ (bp.mem_iff.mp (List.mem_of_getElem? (getD_at hk)))
          refine ⟨gvs, SqL.of (s12 _ _ bK2), u, atI_nat hu, gs.getD k .s, rws, R, rvs2, rfl, .l (s12 _ _ bR2), Trs.sm s12 T2, tu, okk, _, rfl, ?_⟩
          have e : inB rws gs (.int ((k : Nat) : Int)) = decide (gs.getD k .s ∈ rws) := by
            show @decide _ (Classical.propDecidable (gs.getD ((k : Nat) : Int).toNat .s ∈ rws)) = _
            simp only [Int.toNat_natCast]
            congr
          rw [e] at hR'
          exact hR' B2 (Same.refl _)
        intro D B2 s12 hD2 hD2'
        rw [plc_iv] at hD2'
        refine ⟨D, rfl, _, .inl ⟨SqL.of hD2', fun lb hlb => ⟨by decide, fun q hq0 => ?_⟩⟩⟩
        have sb := Same.new (o := HO.tup (iv (plc gs rws))) hlb
        have sq := Same.new (o := HO.tup [V.ref la, .ref lb]) hq0
        have s1q := Same.trans s12 (Same.trans sb sq)
        refine hq q la lb gvs gs m rws ex _ (kb.trans (Kp.same kb.2 (Same.trans sa s1q))) (SqT.of upd_same) (SqT.of (s1q _ _ la2)) (Trs.sm s1q Kt2) (SqT.of (sq _ _ upd_same)) (by omega) hm4 chn exm exn bp exl

end
end WW

set_option maxHeartbeats 4000000
namespace WW
open PySem PySem.Spec PyProof.Rows L2
local macro_rules | `(tactic| walk_at "x") => `(tactic| simp only [tSeq, tNext, tAsg, gName, tRet, tRetN, tIfS, tOp, tUn, rI, rI0, rU, tTest, tB, tAnd, tOr, tNot, tAndV, tOrV, tNotV, tIf, tCons, tNil, tTup, tLst, tCall, tCallS, tMeth, tMake, tFld, sFld, tBM, tBM0, tCB, tSl, tPart, tNoPart, tDrop, tPar, tPar3, tAug, ipI, gTup, gCons, gNil, gSub, rSetL, rAppend, rPop, rIxL, rIxS, rIxT, rEq, rNe, tChain, tNever, tThen, tVar, tC, L2.start, List.map_cons, List.map_nil, List.length_cons, List.length_nil, List.replicate_succ, List.replicate_zero, List.append_nil, List.nil_append, List.cons_append, Nat.reduceAdd, Nat.reduceSub, Nat.add_zero, Nat.zero_add, Nat.sub_zero, Nat.sub_self,
  List.getElem?_cons_zero, List.getElem?_cons_succ, Option.some.injEq, exists_eq_left', exists_eq_left, exists_eq', exists_eq, exists_and_left, List.set_cons_zero, List.set_cons_succ, V.int.injEq, V.bl.injEq, V.str.injEq, V.ref.injEq, V.ty.injEq, List.cons.injEq, and_true, true_and, and_assoc, if_true, if_false, Bool.false_eq_true, reduceCtorEq, false_and, and_false, exists_false, false_or, or_false, Bool.not_true, Bool.not_false, decide_eq_true_eq, ite_true, ite_false, WE, cxOf_K, cxOf_mg, rSlS, scal, wipe, mem_low, mem_dig, mem_brk, mem_brk4, sgn_inj, Bool.decide_eq_true])

def spLaw (K : PySem.W.Frag) : Sp := fun vs H Q _ => ∃ (a : Addr) (ns : List Int), vs = [.ref a] ∧ ns.length ≤ 63 ∧ SqL K H a (ns.map V.int) ∧ ∀ H', Q (.bl true) H'
structure LW (K : PySem.W.Frag) (H : Hp) (dr cs nm : Addr) : Prop where
  d : Dr H dr cs
  n : NmAt K H nm
  ne : nm ≠ dr
theorem LW.kp {K : PySem.W.Frag} {H H' : Hp} {dr cs nm : Addr} (g : LW K H dr cs nm) (k : Kp dr cs H H') : LW K H' dr cs nm := ⟨k.2, g.n.kp g.d k g.ne, g.ne⟩
theorem LW.same {K : PySem.W.Frag} {H H' : Hp} {dr cs nm : Addr} (g : LW K H dr cs nm) (s : Same H H') : LW K H' dr cs nm := g.kp (Kp.same g.d s)
/-- what reply tells -/
def Alt (known : List Te) (wanted : Te) (W : String) : Prop := (InR known wanted ∧ W = "has") ∨ (¬ InR known wanted ∧ W = "lacks")
theorem reply_call {K : PySem.W.Frag} {H : Hp} {a : Addr} {xs : List V} {known : List Te} {x : V} {wanted : Te} {Q : VK} {E : XK} (g : Args K H a xs known x wanted)
    (h : ∀ q p W H', Same H H' → SqT K H' q [.str (Str.ofString W), .ref p] → Alt known wanted W → Q (.ref q) H') : spReply K [.ref a, x] H Q E :=
  .inl ⟨a, xs, known, x, wanted, rfl, g, fun q p lvs lines H' s hq ht hr => h q p "has" H' s hq (.inl ⟨hr, rfl⟩), fun q p us bs H' s hq hb hn => h q p "lacks" H' s hq (.inr ⟨hn, rfl⟩)⟩
theorem iv_dp {K : PySem.W.Frag} {H : Hp} : ∀ (l : List Nat), DpAll K H (iv l) (l.map fun k => PyData.int ((k : Nat) : Int))
  | [] => .nil
  | k :: l => .cons (.int _) (iv_dp l)
theorem iv_lay : ∀ (l : List Nat), PyData.canLayAll0 (l.map fun k => PyData.int ((k : Nat) : Int)) = true
  | [] => rfl
  | k :: l => by simp only [List.map_cons, PyData.canLayAll0, PyData.canLay0, iv_lay l, Bool.and_self]
theorem iv_depth : ∀ (l : List Nat), PyData.depthAll (l.map fun k => PyData.int ((k : Nat) : Int)) ≤ 1
  | [] => by simp [PyData.depthAll]
  | k :: l => by
    have := iv_depth l
    simp only [List.map_cons, PyData.depthAll, PyData.depth]
    omega
theorem iv_eqv : ∀ (l : List Nat), PyData.eqvAll (l.map fun k => PyData.int ((k : Nat) : Int)) (l.map fun k => PyData.int ((k : Nat) : Int)) = true
  | [] => by simp [PyData.eqvAll]
  | k :: l => by simp [PyData.eqvAll, PyData.eqv, iv_eqv l]
/-- the same places, as tuples, as lists -/
theorem rNeIt {K : PySem.W.Frag} {H : Hp} {p q : Addr} {l : List Nat} {Q : VK} (hp : SqT K H p (iv l)) (hq' : SqT K H q (iv l)) (hq : Q (.bl false) H) : rNeW K (.ref p) (.ref q) H Q := by
  refine ⟨.tuple (l.map fun k => PyData.int ((k : Nat) : Int)), .tuple (l.map fun k => PyData.int ((k : Nat) : Int)), .tup hp (iv_dp l), .tup hq' (iv_dp l), by simp only [PyData.canLay0]; exact iv_lay l, by simp only [PyData.canLay0]; exact iv_lay l, by have := iv_depth l; simp only [PyData.depth]; omega, ?_⟩
  have e : PyData.eqv (.tuple (l.map fun k => PyData.int ((k : Nat) : Int))) (.tuple (l.map fun k => PyData.int ((k : Nat) : Int))) = true := by
    simp only [PyData.eqv]
    exact iv_eqv l
  rw [e]
  exact hq
theorem rNeIl {K : PySem.W.Frag} {H : Hp} {p q : Addr} {l : List Nat} {Q : VK} (hp : SqL K H p (iv l)) (hq' : SqL K H q (iv l)) (hq : Q (.bl false) H) : rNeW K (.ref p) (.ref q) H Q := by
  refine ⟨.list (l.map fun k => PyData.int ((k : Nat) : Int)), .list (l.map fun k => PyData.int ((k : Nat) : Int)), .lst hp (iv_dp l), .lst hq' (iv_dp l), by simp only [PyData.canLay0]; exact iv_lay l, by simp only [PyData.canLay0]; exact iv_lay l, by have := iv_depth l; simp only [PyData.depth]; omega, ?_⟩
  have e : PyData.eqv (.list (l.map fun k => PyData.int ((k : Nat) : Int))) (.list (l.map fun k => PyData.int ((k : Nat) : Int))) = true := by
    simp only [PyData.eqv]
    exact iv_eqv l
  rw [e]
  exact hq
theorem rNeS {K : PySem.W.Frag} {H : Hp} {a b : Str} {Q : VK} (ha : (PyData.str a).canLay0 = true) (hb : (PyData.str b).canLay0 = true) (hq : Q (.bl (!decide (a = b))) H) : rNeW K (.str a) (.str b) H Q := by
  refine ⟨.str a, .str b, .str _, .str _, ha, hb, by simp [PyData.depth], ?_⟩
  rw [eqv_ss]
  exact hq
theorem rEqS {K : PySem.W.Frag} {H : Hp} {a b : Str} {Q : VK} (ha : (PyData.str a).canLay0 = true) (hb : (PyData.str b).canLay0 = true) (hq : Q (.bl (decide (a = b))) H) : rEqW K (.str a) (.str b) H Q := by
  refine ⟨.str a, .str b, .str _, .str _, ha, hb, by simp [PyData.depth], ?_⟩
  rw [eqv_ss]
  exact hq
theorem catA {K : PySem.W.Frag} {H : Hp} {a b : Addr} {xs ys : List V} {Q : VK} (ha : SqT K H a xs) (hb : SqT K H b ys) (hl : xs.length + ys.length ≤ 1000) (hq : ∀ p H', Same H H' → SqT K H' p (xs ++ ys) → Q (.ref p) H') : rCatA K (.ref a) (.ref b) H Q := by
  have szl := sizeLine_eq
  refine ⟨a, b, xs, ys, rfl, rfl, ha, hb, by omega, fun e => ?_, fun _ e => ?_, fun _ _ p hp => hq p _ (Same.new hp) (SqT.of upd_same)⟩
  · subst e; exact hq b H (Same.refl _) hb
  · subst e; exact hq a H (Same.refl _) (by rw [List.append_nil]; exact ha)
theorem slA {K : PySem.W.Frag} {H : Hp} {a : Addr} {xs : List V} {lo hi : Option Int} {Q : VK} (ha : SqT K H a xs) (hq : ∀ p H', Same H H' → SqT K H' p (cutV xs lo hi) → Q (.ref p) H') : rSlA K (.ref a) lo hi H Q := by
  refine ⟨a, xs, rfl, ha, fun e => hq a H (Same.refl _) ?_, fun _ p hp => hq p _ (Same.new hp) (SqT.of upd_same)⟩
  unfold cutV
  rw [e.1, e.2]
  simpa using ha
theorem cut_drop {xs : List V} {n : Nat} (h : n ≤ xs.length) : cutV xs (some ((n : Nat) : Int)) none = xs.drop n := by
  unfold cutV
  rw [HT.sIx_none, HT.sIx_nat, Nat.min_eq_left h]
  rw [List.take_of_length_le (by rw [List.length_drop]; omega)]
theorem cut_last {xs : List V} (h : xs ≠ []) : cutV xs (some (-1)) none = xs.drop (xs.length - 1) := by
  have hp := List.length_pos_iff.mpr h
  unfold cutV
  have e : HT.sIx xs.length 0 (some (-1)) = xs.length - 1 := by
    show (if (-1 : Int) < 0 then ((-1 : Int) + (xs.length : Int)).toNat else min (-1 : Int).toNat xs.length) = _
    rw [if_pos (by decide)]
    omega
  rw [HT.sIx_none, e]
  rw [List.take_of_length_le (by rw [List.length_drop]; omega)]
def Lm (a dr nm : Addr) (σ : L2.St) : Prop := ∃ y2 y3 y5 y6 y7 y8 y9 y10 y11 y12 y13 : Option V, σ = [some (.ref a), some (.ref dr), y2, y3, some (.ref nm), y5, y6, y7, y8, y9, y10, y11, y12, y13]
def Ln (a dr nm ka hA hE hB : Addr) (x : V) (σ : L2.St) : Prop := ∃ y3 y5 y10 y11 y12 y13 : Option V, σ = [some (.ref a), some (.ref dr), some (.ref ka), y3, some (.ref nm), y5, some x, some (.ref hA), some (.ref hE), some (.ref hB), y10, y11, y12, y13]
/-- what is drawn in a turn, and what the law reckons of it -/
structure LF (K : PySem.W.Frag) (H : Hp) (dr cs nm ka hA hE hB : Addr) (kxs avs evs bvs : List V) (x : V) (kts as es bs : List Te) (t : Te) : Prop where
  lw : LW K H dr cs nm
  ha : SqT K H ka kxs
  hx : Trs K H kxs kts
  hl : Tr K H x t
  A : H hA = some (.lst avs)
  At : Trs K H avs as
  E : H hE = some (.lst evs)
  Et : Trs K H evs es
  B : H hB = some (.lst bvs)
  Bt : Trs K H bvs bs
theorem LF.kp {K : PySem.W.Frag} {H H' : Hp} {dr cs nm ka hA hE hB : Addr} {kxs avs evs bvs : List V} {x : V} {kts as es bs : List Te} {t : Te} (g : LF K H dr cs nm ka hA hE hB kxs avs evs bvs x kts as es bs t) (k : Kp dr cs H H') (nA : hA ≠ dr) (nE : hE ≠ dr) (nB : hB ≠ dr) : LF K H' dr cs nm ka hA hE hB kxs avs evs bvs x kts as es bs t :=
  have T := k.tx g.lw.d
  ⟨g.lw.kp k, T.sqt g.ha, g.hx.tx T, Tr.tx T g.hl, k.1 _ _ nA g.A, g.At.tx T, k.1 _ _ nE g.E, g.Et.tx T, k.1 _ _ nB g.B, g.Bt.tx T⟩
theorem LF.same {K : PySem.W.Frag} {H H' : Hp} {dr cs nm ka hA hE hB : Addr} {kxs avs evs bvs : List V} {x : V} {kts as es bs : List Te} {t : Te} (g : LF K H dr cs nm ka hA hE hB kxs avs evs bvs x kts as es bs t) (s : Same H H') : LF K H' dr cs nm ka hA hE hB kxs avs evs bvs x kts as es bs t :=
  ⟨g.lw.same s, (Tx.of s).sqt g.ha, Trs.sm s g.hx, Tr.sm s g.hl, s _ _ g.A, Trs.sm s g.At, s _ _ g.E, Trs.sm s g.Et, s _ _ g.B, Trs.sm s g.Bt⟩
/-- what holds of it -/
structure LP (kts as es bs : List Te) (t : Te) : Prop where
  sz : sizeOk kts
  tz : t.size ≤ 22 ∧ t.depth ≤ 7
  am : ∀ u, u ∈ as ↔ Cl kts (evE kts t) u
  bm : ∀ u, u ∈ bs ↔ Cl (kts ++ [t]) (evE kts t) u
  em : ∀ u, u ∈ es ↔ u ∈ evE kts t
  en : es.Nodup
  al : as.length ≤ 500
  bl : bs.length ≤ 500
theorem evE_small {kts : List Te} {t : Te} (sz : ∀ u ∈ kts, u.size ≤ 22 ∧ u.depth ≤ 7) (tz : t.size ≤ 22 ∧ t.depth ≤ 7) : ∀ u ∈ evE kts t, u.size ≤ 22 ∧ u.depth ≤ 7 := fun u hu => by
  obtain ⟨v, hv, hs⟩ := (subsT_mem _ u).mp hu
  have h1 := hs.size
  have h2 := hs.dep
  rcases List.mem_append.mp hv with h | h
  · have := sz v h; omega
  · rw [List.mem_singleton.mp h] at h1 h2; omega
theorem LP.kn {kts as es bs : List Te} {t : Te} (p : LP kts as es bs t) : kts.length ≤ 5 := p.sz.1
theorem LP.szs {kts as es bs : List Te} {t w : Te} (p : LP kts as es bs t) (hw : w.size ≤ 22) : sizes (kts ++ [w]) ≤ 132 := by
  have := sizes_mul (z := 22) (ts := kts ++ [w]) fun u hu => by
    rcases List.mem_append.mp hu with h | h
    · exact (p.sz.2 u h).1
    · rw [List.mem_singleton.mp h]; exact hw
  have := p.kn
  rw [List.length_append, List.length_singleton] at *
  omega
theorem LP.szk {kts as es bs : List Te} {t : Te} (p : LP kts as es bs t) : sizes kts ≤ 132 := by
  have := p.szs p.tz.1
  rw [sizes_app] at this
  omega
theorem LP.okE {kts as es bs : List Te} {t : Te} (p : LP kts as es bs t) : ∀ u ∈ evE kts t, u.ok := fun u hu => by
  have := evE_small p.sz.2 p.tz u hu
  exact ⟨by omega, by omega⟩
theorem LP.okk {kts as es bs : List Te} {t : Te} (p : LP kts as es bs t) : ∀ u ∈ kts, u.ok ∧ u.size ≤ 80 := fun u hu => by
  have := p.sz.2 u hu
  exact ⟨⟨by omega, by omega⟩, by omega⟩
theorem LP.args {K : PySem.W.Frag} {H : Hp} {ka : Addr} {kxs : List V} {v : V} {kts as es bs : List Te} {t w : Te} (p : LP kts as es bs t) (ha : SqT K H ka kxs) (hx : Trs K H kxs kts) (hv : Tr K H v w) (hw : w ∈ evE kts t) : Args K H ka kxs kts v w := by
  have h := evE_small p.sz.2 p.tz w hw
  have h2 := p.szs h.1
  have h3 := p.kn
  exact ⟨ha, hx, hv, p.okk, ⟨p.okE w hw, by omega⟩, by omega, by omega⟩
theorem Cl.within {kts : List Te} {t u : Te} (h : Cl kts (evE kts t) u) : u ∈ evE kts t := by
  obtain ⟨n, r⟩ := h
  exact rnd_in (fun t ht => subsT_self (List.mem_append_left _ ht)) subsT_closed n u r
theorem Cl.within2 {kts : List Te} {t u : Te} (h : Cl (kts ++ [t]) (evE kts t) u) : u ∈ evE kts t := by
  obtain ⟨n, r⟩ := h
  exact rnd_in (fun t ht => subsT_self ht) subsT_closed n u r
theorem Cl.within0 {kts : List Te} {u : Te} (h : Cl kts (subsT kts) u) : u ∈ subsT kts := by
  obtain ⟨n, r⟩ := h
  exact rnd_in (fun t ht => subsT_self ht) subsT_closed n u r
theorem self_ev {kts : List Te} {t : Te} : t ∈ evE kts t := subsT_self (List.mem_append_right _ (List.mem_singleton.mpr rfl))
/-- the places told, or none -/
def PlV (K : PySem.W.Frag) (H : Hp) (pv : V) (known : List Te) (wanted : Te) : Prop := (pv = .non ∧ ¬ InR known wanted) ∨ ∃ p ps, pv = .ref p ∧ SqT K H p (iv ps) ∧ Need known wanted ps
theorem PlV.same {K : PySem.W.Frag} {H H' : Hp} {pv : V} {known : List Te} {wanted : Te} (s : Same H H') (h : PlV K H pv known wanted) : PlV K H' pv known wanted := by
  rcases h with h | ⟨p, ps, h1, h2, h3⟩
  · exact .inl h
  · exact .inr ⟨p, ps, h1, (Tx.of s).sqt h2, h3⟩
theorem needed_call {K : PySem.W.Frag} {H : Hp} {a : Addr} {xs : List V} {known : List Te} {x : V} {wanted : Te} {Q : VK} {E : XK} (g : Args K H a xs known x wanted) (h1 : ∀ t ∈ known, t.size ≤ 40) (h2 : wanted.size ≤ 40)
    (h : ∀ pv H', Same H H' → PlV K H' pv known wanted → Q pv H') : spNeeded K [.ref a, x] H Q E :=
  .inl ⟨a, xs, known, x, wanted, rfl, g, h1, h2, fun p ps H' s hp hn => h _ H' s (.inr ⟨p, ps, rfl, hp, hn⟩), fun H' s hn => h _ H' s (.inl ⟨rfl, hn⟩)⟩
theorem Need.all {known : List Te} {wanted : Te} {ps : List Nat} (n : Need known wanted ps) : InR known wanted := n.has.sub (sel_in n.bd)
def Lp (a dr nm ka hA hE hB : Addr) (x pv v : V) (σ : L2.St) : Prop := ∃ y5 y11 y12 y13 : Option V, σ = [some (.ref a), some (.ref dr), some (.ref ka), some pv, some (.ref nm), y5, some x, some (.ref hA), some (.ref hE), some (.ref hB), some v, y11, y12, y13]
theorem sorted_extI {a b : List Int} (ha : a.Pairwise (· < ·)) (hb : b.Pairwise (· < ·)) (h : ∀ k, k ∈ a ↔ k ∈ b) : a = b := by
  have na : a.Nodup := ha.imp fun q => Int.ne_of_lt q
  have nb : b.Nodup := hb.imp fun q => Int.ne_of_lt q
  have hp : a.Perm b := (List.perm_ext_iff_of_nodup na nb).mpr h
  exact hp.eq_of_pairwise (le := (· < ·)) (fun x y _ _ h1 h2 => absurd h1 (Int.not_lt.mpr (Int.le_of_lt h2))) ha hb
theorem iv_map (ps : List Nat) : (ps.map fun k => ((k : Nat) : Int)).map V.int = iv ps := by
  unfold iv
  rw [List.map_map]
  rfl
theorem tLc_sel {K : PySem.W.Frag} {J : It} {G : Hp → Prop} {ps : List Nat} {known : List Te} {wi : TI} {tt : TT} {te : TE} {vs : List Nat} {σ : L2.St} {H H1 : Hp} {Q : VK} {j : Nat} (wk : Walk J (iv ps).length G (YAt (iv ps))) (hn : ps.length ≤ 1000)
    (hwi : ∀ R : It → Hp → Prop, R J H1 → wi σ H R) (hG : ∀ H', Same H1 H' → G H') (hw : ∀ x, wipe ((wipe σ vs).set j (some x)) vs = wipe σ vs) (p : Nat → Bool)
    (he : ∀ (k : Nat) H2 (R : Bool → Hp → Prop), k ∈ ps → Same H1 H2 → (∀ H3, Same H2 H3 → R (p k) H3) → tt ((wipe σ vs).set j (some (.int ((k : Nat) : Int)))) H2 R)
    (ht : ∀ (k : Nat) H2 (R : VK), k ∈ ps → Same H1 H2 → (∀ y H3, Same H2 H3 → Tr K H3 y (known.getD k .s) → R y H3) → te ((wipe σ vs).set j (some (.int ((k : Nat) : Int)))) H2 R)
    (hq : ∀ D ys H2, Same H1 H2 → H1 D = none → H2 D = some (.lst ys) → Trs K H2 ys (sel known (ps.filter p)) → Q (.ref D) H2) : tLc wi (gName j) tt te vs σ H Q := by
  have szl := sizeLine_eq
  have hil := iv_len ps
  refine tLc_of wk hwi (fun D i H2 => Same H1 H2 ∧ H1 D = none ∧ ∃ ys, H2 D = some (.lst ys) ∧ ys.length ≤ i ∧ Trs K H2 ys (sel known ((ps.take i).filter p))) (fun D hD => ⟨Same.new hD, hD, [], upd_same, Nat.le_refl _, .nil⟩) (fun D i H2 _ h => hG H2 h.1) ?_ ?_
  · rintro D i x H2 H3 hi ⟨s2, hD, ys, h2, hl, hp⟩ ⟨rfl, hxi⟩
    unfold iv at hxi
    rw [List.getElem?_map] at hxi
    obtain ⟨k, hk, rfl⟩ := Option.map_eq_some_iff.mp hxi
    refine ⟨hw _, ?_⟩
    have hkp := List.mem_of_getElem? hk
    refine he k H3 _ hkp s2 fun H4 s4 => ?_
    have ef : sel known ((ps.take (i + 1)).filter p) = sel known ((ps.take i).filter p) ++ if p k then [known.getD k .s] else [] := by
      rw [List.take_add_one, hk, List.filter_append]
      unfold sel
      rw [List.map_append]
      congr 1
      simp only [Option.toList, List.filter_cons, List.filter_nil]
      cases p k <;> rfl
    rw [ef]
    cases hpt : p k with
    | true =>
      rw [if_pos rfl]
      refine ht k H4 _ hkp (Same.trans s2 s4) fun y H5 s5 hy => ?_
      have s45 := Same.trans s4 s5
      refine ⟨ys, s45 _ _ h2, by omega, Same.mut (Same.trans s2 s45) hD, hD, _, upd_same, by simp; omega, ?_⟩
      have tX : Tx H5 (upd H5 D (.lst (ys ++ [y]))) := Tx.up (s45 _ _ h2) noTup_l
      exact Trs.snoc ((Trs.sm s45 hp).tx tX) (Tr.tx tX hy)
    | false =>
      rw [if_neg (by decide)]
      refine ⟨Same.trans s2 s4, hD, ys, s4 _ _ h2, by omega, ?_⟩
      simpa using Trs.sm s4 hp
  · rintro D H2 ⟨s2, hD, ys, h2, hl, hp⟩
    rw [hil, List.take_length] at hp
    exact hq D ys H2 s2 hD h2 hp
theorem sset_call {K : PySem.W.Frag} {w : World} {H : Hp} {p : Addr} {ps : List Nat} {Q : VK} (hp : SqT K H p (iv ps)) (hlt : ps.Pairwise (· < ·)) (hl : ps.length ≤ 60) (hq : ∀ q H', Same H H' → SqL K H' q (iv ps) → Q (.ref q) H') : rSetTI K w [.ref p] H fun x H1 => rSortedSet w [x] H1 Q := by
  refine ⟨p, ps.map (fun k => ((k : Nat) : Int)), rfl, by rw [iv_map]; exact hp, by rw [List.length_map]; omega, fun sa c hsa hc => ⟨sa, fun j => decide (j ∈ ps.map (fun k => ((k : Nat) : Int))), c, rfl, upd_same, by rw [List.length_map] at hc; omega, fun ns q hns hmem hlen hq0 => ?_⟩⟩
  have s2 : Same H (upd H sa (SetO w sa (fun j => decide (j ∈ ps.map (fun k => ((k : Nat) : Int)))) c)) := Same.new hsa
  have ens : ns = ps.map (fun k => ((k : Nat) : Int)) := sorted_extI hns (List.pairwise_map.mpr (hlt.imp fun h => by omega)) fun k => by rw [hmem]; exact decide_eq_true_iff
  subst ens
  exact hq q _ (Same.trans s2 (Same.new hq0)) (SqL.of (by rw [upd_same, iv_map]))
def Lc (a dr ka pb : Addr) (σ : L2.St) : Prop := ∃ y4 y5 y6 y7 y8 y9 y10 y11 y12 y13 : Option V, σ = [some (.ref a), some (.ref dr), some (.ref ka), some (.ref pb), y4, y5, y6, y7, y8, y9, y10, y11, y12, y13]
section
variable {P : Program} {w : World} {K : PySem.W.Frag} {mg : Str → Option Value} {base : Heap}
theorem o_law (W : Wd fa fn K mg) : ∃ fd, FunD K d_law.name d_law.qual d_law.params d_law.body d_law.scope [] (d_law.kws K) (He.fAd K d_law.at_) fd ∧ ∀ base : Heap, LawOk P w K mg base (He.fAd K d_law.at_) "script" fd (spLaw K) := by
  refine okLaw W (d := d_law) 44 (k := 80) sc_law ⟨rfl, by decide, by decide⟩ rfl rfl ?len (fun base cdv s H vs Q E hr nd hu tk po h => ?body)
  case len =>
    rintro vs H Q E ⟨_, _, rfl, _⟩
    rfl
  case body =>
    have o__law_draw := (o__law_draw (P := P) (w := w) (base := base) W).mono (show 1 ≤ 80 by decide)
    have o__law_take := (o__law_take (P := P) (w := w) (base := base) W).mono (show 1 ≤ 80 by decide)
    have o__law_term := (o__law_term (P := P) (w := w) (base := base) W 4).mono (show 4 + 1 ≤ 80 by decide)
    have o__law_knowns := (o__law_knowns (P := P) (w := w) (base := base) W).mono (show 6 ≤ 80 by decide)
    have o__law_within := (o__law_within (P := P) (w := w) (base := base) W).mono (show 2 ≤ 80 by decide)
    have o__law_rounds := (o__law_rounds (P := P) (w := w) (base := base) W).mono (show 3 ≤ 80 by decide)
    have o__law_all := (o__law_all (P := P) (w := w) (base := base) W).mono (show 1 ≤ 80 by decide)
    have o__law_line := (o__law_line (P := P) (w := w) (base := base) W).mono (show 60 ≤ 80 by decide)
    have o__law_chain := (o__law_chain (P := P) (w := w) (base := base) W).mono (show 2 ≤ 80 by decide)
    have o__law_falls := (o__law_falls (P := P) (w := w) (base := base) W).mono (show 66 ≤ 80 by decide)
    have o__law_odd_terms := (o__law_odd_terms (P := P) (w := w) (base := base) W).mono (show 2 ≤ 80 by decide)
    have o__law_odd_term := (o__law_odd_term (P := P) (w := w) (base := base) W).mono (show 2 ≤ 80 by decide)
    have o_reply := (o_reply (P := P) (w := w) (base := base) W).mono (show 65 ≤ 80 by decide)
    have o_needed := (o_needed (P := P) (w := w) (base := base) W).mono (show 65 ≤ 80 by decide)
    have o_gained := (o_gained (P := P) (w := w) (base := base) W).mono (show 65 ≤ 80 by decide)
    have o_had := (o_had (P := P) (w := w) (base := base) W).mono (show 65 ≤ 80 by decide)
    obtain ⟨fd__law_draw, F__law_draw, b__law_draw, k__law_draw⟩ := o__law_draw.ex; obtain ⟨fd__law_chain, F__law_chain, b__law_chain, k__law_chain⟩ := o__law_chain.ex; obtain ⟨fd_needed, F_needed, b_needed, k_needed⟩ := o_needed.ex; obtain ⟨fd_reply, F_reply, b_reply, k_reply⟩ := o_reply.ex; obtain ⟨fd_gained, F_gained, b_gained, k_gained⟩ := o_gained.ex; obtain ⟨fd_had, F_had, b_had, k_had⟩ := o_had.ex; obtain ⟨fd__law_knowns, F__law_knowns, b__law_knowns, k__law_knowns⟩ := o__law_knowns.ex; obtain ⟨fd__law_term, F__law_term, b__law_term, k__law_term⟩ := o__law_term.ex; obtain ⟨fd__law_all, F__law_all, b__law_all, k__law_all⟩ := o__law_all.ex; obtain ⟨fd__law_rounds, F__law_rounds, b__law_rounds, k__law_rounds⟩ := o__law_rounds.ex; obtain ⟨fd__law_within, F__law_within, b__law_within, k__law_within⟩ := o__law_within.ex; obtain ⟨fd__law_line, F__law_line, b__law_line, k__law_line⟩ := o__law_line.ex; obtain ⟨fd__law_take, F__law_take, b__law_take, k__law_take⟩ := o__law_take.ex; obtain ⟨fd__law_falls, F__law_falls, b__law_falls, k__law_falls⟩ := o__law_falls.ex; obtain ⟨fd__law_odd_terms, F__law_odd_terms, b__law_odd_terms, k__law_odd_terms⟩ := o__law_odd_terms.ex; obtain ⟨fd__law_odd_term, F__law_odd_term, b__law_odd_term, k__law_odd_term⟩ := o__law_odd_term.ex
    refine ⟨_, (pss_cons (ps_set (i := 1) nd rfl (by first | exact Or.inl rfl | exact Or.inr rfl) (by exact (pe_callS F__law_draw (hr.mono (by first | decide | omega)) rfl (W.glo 62) k__law_draw b__law_draw (fun σ => passAt tk σ) (by exact (pa_cons (pv 0) pa_nil)))))
    (pss_cons (ps_asg (by exact (pe_callS F__law_chain (hr.mono (by first | decide | omega)) rfl (W.glo 63) k__law_chain b__law_chain (fun σ => passAt tk σ) (by exact (pa_cons (pv 1) pa_nil)))) (pg_tup rfl (pgs_cons (pg_name (i := 2) nd rfl (by first | exact Or.inl rfl | exact Or.inr rfl)) (pgs_cons (pg_name (i := 3) nd rfl (by first | exact Or.inl rfl | exact Or.inr rfl)) pgs_nil))))
    (Evl.pss_cut (ps_if (PW.pt (pw_or (pt_cmpR (op_neW hr.units) (by exact (pe_callS F_needed (hr.mono (by first | decide | omega)) rfl (W.glo 58) k_needed b_needed (fun σ => passAt tk σ) (by exact (pa_cons (pv 2) (pa_cons (pe_tup (pa_cons pe_str (pa_cons pe_str pa_nil))) pa_nil))))) (pv 3) (nomark _)) (pw_or1 (pt_cmpR (op_neW hr.units) (pe_ix ix_tup (by exact (pe_callS F_reply (hr.mono (by first | decide | omega)) rfl (W.glo 64) k_reply b_reply (fun σ => passAt tk σ) (by exact (pa_cons (pv 2) (pa_cons (pe_tup (pa_cons pe_str (pa_cons pe_str pa_nil))) pa_nil))))) pe_int (fun _ _ => rfl)) pe_str (nomark _))))) (pss_one (ps_ret pe_bl)) pss_nil)
    (Evl.pss_cut (ps_if (PW.pt (pw_or (pt_cmpR (op_eqW hr.units) (pe_slice sl_tupA (by exact (pe_callS F_gained (hr.mono (by first | decide | omega)) rfl (W.glo 57) k_gained b_gained (fun σ => passAt tk σ) (by exact (pa_cons (pe_op op_catA (pe_slice sl_tupA (pv 2) po_none (po_some (pe_ix ix_tup (pv 3) pe_int (fun _ _ => rfl)))) (pe_slice sl_tupA (pv 2) (po_some (pe_op op_add (pe_ix ix_tup (pv 3) pe_int (fun _ _ => rfl)) pe_int)) po_none)) (pa_cons (pe_ix ix_tup (pv 2) (pe_ix ix_tup (pv 3) pe_int (fun _ _ => rfl)) (fun _ _ => rfl)) pa_nil))))) (po_some (pe_un un_neg pe_int)) po_none) (pe_tup pa_nil) (nomark _)) (pw_or1 (pt_cmpR (op_notInT hr.units) (pe_tup (pa_cons pe_str (pa_cons pe_str pa_nil))) (by exact (pe_callS F_had (hr.mono (by first | decide | omega)) rfl (W.glo 59) k_had b_had (fun σ => passAt tk σ) (by exact (pa_cons (pv 2) pa_nil)))) (by rfl))))) (pss_one (ps_ret pe_bl)) pss_nil)
    (pss_cons (ps_set (i := 4) nd rfl (by first | exact Or.inl rfl | exact Or.inr rfl) (pe_lst (pa_cons (pe_tup (pa_cons pe_str (pa_cons pe_str pa_nil))) (pa_cons (pe_tup (pa_cons pe_str (pa_cons pe_str pa_nil))) (pa_cons (pe_tup (pa_cons pe_str (pa_cons pe_str (pa_cons pe_int pa_nil)))) (pa_cons (pe_tup (pa_cons pe_str (pa_cons pe_int pa_nil))) (pa_cons (pe_tup (pa_cons pe_str (pa_cons pe_str (pa_cons pe_int pa_nil)))) pa_nil)))))))
    (Evl.pss_cut (ps_for po rfl (pi_range1 rfl (W.free 48) (pa_cons pe_int pa_nil)) (pg_name (i := 5) nd rfl (by first | exact Or.inl rfl | exact Or.inr rfl))
      (pss_cons (ps_asg (pe_tup (pa_cons (by exact (pe_callS F__law_knowns (hr.mono (by first | decide | omega)) rfl (W.glo 65) k__law_knowns b__law_knowns (fun σ => passAt tk σ) (by exact (pa_cons (pv 1) (pa_cons (pv 4) pa_nil))))) (pa_cons (by exact (pe_callS F__law_term (hr.mono (by first | decide | omega)) rfl (W.glo 56) k__law_term b__law_term (fun σ => passAt tk σ) (by exact (pa_cons (pv 1) (pa_cons pe_int (pa_cons (pv 4) pa_nil)))))) pa_nil))) (pg_tup rfl (pgs_cons (pg_name (i := 2) nd rfl (by first | exact Or.inl rfl | exact Or.inr rfl)) (pgs_cons (pg_name (i := 6) nd rfl (by first | exact Or.inl rfl | exact Or.inr rfl)) pgs_nil))))
    (pss_cons (ps_asg (pe_tup (pa_cons (by exact (pe_callS F__law_all (hr.mono (by first | decide | omega)) rfl (W.glo 66) k__law_all b__law_all (fun σ => passAt tk σ) (by exact (pa_cons (by exact (pe_callS F__law_rounds (hr.mono (by first | decide | omega)) rfl (W.glo 67) k__law_rounds b__law_rounds (fun σ => passAt tk σ) (by exact (pa_cons (pv 2) (pa_cons (pe_lst (pa_cons (pv 6) pa_nil)) pa_nil))))) pa_nil)))) (pa_cons (by exact (pe_callS F__law_within (hr.mono (by first | decide | omega)) rfl (W.glo 53) k__law_within b__law_within (fun σ => passAt tk σ) (by exact (pa_cons (pe_op op_cat (pe_callTy call_list_of (by rfl) (W.free 21) (by decide +kernel) (pa_cons (pv 2) pa_nil)) (pe_lst (pa_cons (pv 6) pa_nil))) pa_nil)))) pa_nil))) (pg_tup rfl (pgs_cons (pg_name (i := 7) nd rfl (by first | exact Or.inl rfl | exact Or.inr rfl)) (pgs_cons (pg_name (i := 8) nd rfl (by first | exact Or.inl rfl | exact Or.inr rfl)) pgs_nil))))
    (pss_cons (ps_set (i := 9) nd rfl (by first | exact Or.inl rfl | exact Or.inr rfl) (by exact (pe_callS F__law_all (hr.mono (by first | decide | omega)) rfl (W.glo 66) k__law_all b__law_all (fun σ => passAt tk σ) (by exact (pa_cons (by exact (pe_callS F__law_rounds (hr.mono (by first | decide | omega)) rfl (W.glo 67) k__law_rounds b__law_rounds (fun σ => passAt tk σ) (by exact (pa_cons (pe_op op_catA (pv 2) (pe_tup (pa_cons (pv 6) pa_nil))) (pa_cons (pe_lst pa_nil) pa_nil))))) pa_nil)))))
    (Evl.pss_cut (ps_if (pt_cmpR (op_neW hr.units) (by exact (pe_callS F_had (hr.mono (by first | decide | omega)) rfl (W.glo 59) k_had b_had (fun σ => passAt tk σ) (by exact (pa_cons (pv 2) pa_nil)))) (by exact (pe_callS F__law_line (hr.mono (by first | decide | omega)) rfl (W.glo 68) k__law_line b__law_line (fun σ => passAt tk σ) (by exact (pa_cons (pe_lc (own := [("term", 12)]) (g := (gName 12)) rfl nd (pi_list (by exact (pe_callS F__law_all (hr.mono (by first | decide | omega)) rfl (W.glo 66) k__law_all b__law_all (fun σ => passAt tk σ) (by exact (pa_cons (by exact (pe_callS F__law_rounds (hr.mono (by first | decide | omega)) rfl (W.glo 67) k__law_rounds b__law_rounds (fun σ => passAt tk σ) (by exact (pa_cons (pv 2) (pa_cons (pe_lst pa_nil) pa_nil))))) pa_nil))))) (blkOk_by (own := [("term", 12)]) (N := ["script", "draw", "known", "places", "names", "turn", "letter", "ahead", "inner", "behind", "wanted", "k", "term", "one"]) (sc := defScope s_law) (by decide +kernel)) (fun _ _ _ _ _ => (pg_name (i := 12) nd rfl (by first | exact Or.inl rfl | exact Or.inr rfl))) (fun _ _ _ _ _ => (pts_one (pt_cmpR (kOp (K := K) (r := rInT) rfl (op_inT hr.units)) (pv 12) (pe_call F__law_within (hr.mono (by first | decide | omega)) rfl (W.glo 53) k__law_within b__law_within .nil passL (pa_cons (pv 2) pa_nil)) (by rfl)))) (fun _ _ _ _ _ => (pv 12))) pa_nil)))) (nomark _)) (pss_one (ps_ret pe_bl)) pss_nil)
    (Evl.pss_cut (ps_if (pt_cmpR (op_neW hr.units) (by exact (pe_callS F_gained (hr.mono (by first | decide | omega)) rfl (W.glo 57) k_gained b_gained (fun σ => passAt tk σ) (by exact (pa_cons (pv 2) (pa_cons (pv 6) pa_nil))))) (by exact (pe_callS F__law_line (hr.mono (by first | decide | omega)) rfl (W.glo 68) k__law_line b__law_line (fun σ => passAt tk σ) (by exact (pa_cons (pe_lc (own := [("term", 12)]) (g := (gName 12)) rfl nd (pi_list (pv 9)) (blkOk_by (own := [("term", 12)]) (N := ["script", "draw", "known", "places", "names", "turn", "letter", "ahead", "inner", "behind", "wanted", "k", "term", "one"]) (sc := defScope s_law) (by decide +kernel)) (fun _ _ _ _ _ => (pg_name (i := 12) nd rfl (by first | exact Or.inl rfl | exact Or.inr rfl))) (fun _ _ _ _ _ => (pts_one (PW.pt (pw_and (pt_cmpR (kOp (K := K) (r := rInT) rfl (op_inT hr.units)) (pv 12) (pv 8) (by rfl)) (pw_and1 (pt_cmpR (kOp (K := K) (r := rNotInT) rfl (op_notInT hr.units)) (pv 12) (pv 7) (by rfl))))))) (fun _ _ _ _ _ => (pv 12))) pa_nil)))) (nomark _)) (pss_one (ps_ret pe_bl)) pss_nil)
    (Evl.pss_cut (ps_if (pt_cmpR op_ne (pe_cmpR (op_eqW hr.units) (by exact (pe_callS F_gained (hr.mono (by first | decide | omega)) rfl (W.glo 57) k_gained b_gained (fun σ => passAt tk σ) (by exact (pa_cons (pv 2) (pa_cons (pv 6) pa_nil))))) (pe_tup pa_nil) (nomark _)) (pe_callB (cr_all rfl) (by rfl) (W.free 3) (by decide +kernel) (pa_cons (pe_lc (own := [("term", 12)]) (g := (gName 12)) (tt := tYes) rfl nd (pi_list (pv 9)) (blkOk_by (own := [("term", 12)]) (N := ["script", "draw", "known", "places", "names", "turn", "letter", "ahead", "inner", "behind", "wanted", "k", "term", "one"]) (sc := defScope s_law) (by decide +kernel)) (fun _ _ _ _ _ => (pg_name (i := 12) nd rfl (by first | exact Or.inl rfl | exact Or.inr rfl))) (fun _ _ _ _ _ => pts_nil) (fun _ _ _ _ _ => (pe_cmpR (kOp (K := K) (r := rInT) rfl (op_inT hr.units)) (pv 12) (pv 7) (by rfl)))) pa_nil)) (nomark _)) (pss_one (ps_ret pe_bl)) pss_nil)
    (pss_cons (ps_set (i := 10) nd rfl (by first | exact Or.inl rfl | exact Or.inr rfl) (pe_ix ix_list (pv 8) (by exact (pe_callS F__law_take (hr.mono (by first | decide | omega)) rfl (W.glo 55) k__law_take b__law_take (fun σ => passAt tk σ) (by exact (pa_cons (pv 1) (pa_cons (pe_callB call_len (by rfl) (W.free 7) (by decide +kernel) (pa_cons (pv 8) pa_nil)) pa_nil))))) (fun _ _ => rfl)))
    (pss_cons (ps_set (i := 3) nd rfl (by first | exact Or.inl rfl | exact Or.inr rfl) (by exact (pe_callS F_needed (hr.mono (by first | decide | omega)) rfl (W.glo 58) k_needed b_needed (fun σ => passAt tk σ) (by exact (pa_cons (pv 2) (pa_cons (pv 10) pa_nil))))))
    (Evl.pss_cut (ps_if (pt_cmpR op_ne (pe_cmpR op_isN (pv 3) pe_non (nomark _)) (pe_cmpR (op_eqW hr.units) (pe_ix ix_tup (by exact (pe_callS F_reply (hr.mono (by first | decide | omega)) rfl (W.glo 64) k_reply b_reply (fun σ => passAt tk σ) (by exact (pa_cons (pv 2) (pa_cons (pv 10) pa_nil))))) pe_int (fun _ _ => rfl)) pe_str (nomark _)) (nomark _)) (pss_one (ps_ret pe_bl)) pss_nil)
    (Evl.pss_cut (ps_if (pt_cmpR op_notN (pv 3) pe_non (nomark _)) (Evl.pss_cut (ps_if (PW.pt (pw_or (pt_not (pt_val (pe_callB call_isiV (by rfl) (W.free 0) (by decide +kernel) (pa_cons (pv 3) (pa_cons (pe_bltn (v := .ty "tuple") (u := .type "tuple") rfl (W.free 14) (by decide +kernel) rfl) pa_nil))))) (pw_or (pt_cmpR (op_neW hr.units) (pe_callTy call_list_of (by rfl) (W.free 21) (by decide +kernel) (pa_cons (pv 3) pa_nil)) (pe_callB (cr_sortedSet rfl) (by rfl) (W.free 23) (by decide +kernel) (pa_cons (pe_callTy (cr_setTI rfl) (by rfl) (W.free 69) (by decide +kernel) (pa_cons (pv 3) pa_nil)) pa_nil)) (nomark _)) (pw_or1 (pt_not (pt_val (pe_callB (cr_all rfl) (by rfl) (W.free 3) (by decide +kernel) (pa_cons (pe_lc (own := [("k", 11)]) (g := (gName 11)) (tt := tYes) rfl nd (pi_tup (pv 3)) (blkOk_by (own := [("k", 11)]) (N := ["script", "draw", "known", "places", "names", "turn", "letter", "ahead", "inner", "behind", "wanted", "k", "term", "one"]) (sc := defScope s_law) (by decide +kernel)) (fun _ _ _ _ _ => (pg_name (i := 11) nd rfl (by first | exact Or.inl rfl | exact Or.inr rfl))) (fun _ _ _ _ _ => pts_nil) (fun _ _ _ _ _ => (pe_chain op_le op_lt pe_int (pv 11) (pe_callB (kCall (K := K) (r := rLenK) rfl call_len) (by rfl) (W.free 7) (by decide +kernel) (pa_cons (pv 2) pa_nil))))) pa_nil)))))))) (pss_one (ps_ret pe_bl)) pss_nil)
    (Evl.pss_cut (ps_if (pt_cmpR (op_notInT hr.units) (pv 10) (by exact (pe_callS F__law_all (hr.mono (by first | decide | omega)) rfl (W.glo 66) k__law_all b__law_all (fun σ => passAt tk σ) (by exact (pa_cons (by exact (pe_callS F__law_rounds (hr.mono (by first | decide | omega)) rfl (W.glo 67) k__law_rounds b__law_rounds (fun σ => passAt tk σ) (by exact (pa_cons (pe_callTy call_tuple_of (by rfl) (W.free 14) (by decide +kernel) (pa_cons (pe_lc (own := [("k", 11)]) (g := (gName 11)) (tt := tYes) rfl nd (pi_tup (pv 3)) (blkOk_by (own := [("k", 11)]) (N := ["script", "draw", "known", "places", "names", "turn", "letter", "ahead", "inner", "behind", "wanted", "k", "term", "one"]) (sc := defScope s_law) (by decide +kernel)) (fun _ _ _ _ _ => (pg_name (i := 11) nd rfl (by first | exact Or.inl rfl | exact Or.inr rfl))) (fun _ _ _ _ _ => pts_nil) (fun _ _ _ _ _ => (pe_ix (kIx (K := K) (r := rIxT) rfl ix_tup) (pv 2) (pv 11) (fun _ _ => rfl)))) pa_nil)) (pa_cons (pe_lst (pa_cons (pv 10) pa_nil)) pa_nil))))) pa_nil)))) (by rfl)) (pss_one (ps_ret pe_bl)) pss_nil)
    (pss_one (ps_for po rfl (pi_tup (pv 3)) (pg_name (i := 11) nd rfl (by first | exact Or.inl rfl | exact Or.inr rfl))
      (pss_one (ps_if (pt_cmpR (op_inT hr.units) (pv 10) (by exact (pe_callS F__law_all (hr.mono (by first | decide | omega)) rfl (W.glo 66) k__law_all b__law_all (fun σ => passAt tk σ) (by exact (pa_cons (by exact (pe_callS F__law_rounds (hr.mono (by first | decide | omega)) rfl (W.glo 67) k__law_rounds b__law_rounds (fun σ => passAt tk σ) (by exact (pa_cons (pe_callTy call_tuple_of (by rfl) (W.free 14) (by decide +kernel) (pa_cons (pe_lc (own := [("one", 13)]) (g := (gName 13)) rfl nd (pi_tup (pv 3)) (blkOk_by (own := [("one", 13)]) (N := ["script", "draw", "known", "places", "names", "turn", "letter", "ahead", "inner", "behind", "wanted", "k", "term", "one"]) (sc := defScope s_law) (by decide +kernel)) (fun _ _ _ _ _ => (pg_name (i := 13) nd rfl (by first | exact Or.inl rfl | exact Or.inr rfl))) (fun _ _ _ _ _ => (pts_one (pt_cmpR op_ne (pv 13) (pv 11) (nomark _)))) (fun _ _ _ _ _ => (pe_ix (kIx (K := K) (r := rIxT) rfl ix_tup) (pv 2) (pv 13) (fun _ _ => rfl)))) pa_nil)) (pa_cons (pe_lst (pa_cons (pv 10) pa_nil)) pa_nil))))) pa_nil)))) (by rfl)) (pss_one (ps_ret pe_bl)) pss_nil)))))) pss_nil)
    (pss_one (ps_if (PW.pt (pw_and (pt_cmpR (op_eqW hr.units) (pe_ix ix_tup (by exact (pe_callS F_reply (hr.mono (by first | decide | omega)) rfl (W.glo 64) k_reply b_reply (fun σ => passAt tk σ) (by exact (pa_cons (pv 2) (pa_cons (pv 10) pa_nil))))) pe_int (fun _ _ => rfl)) pe_str (nomark _)) (pw_and1 (pt_cmpR (op_neW hr.units) (pe_ix ix_tup (by exact (pe_callS F_reply (hr.mono (by first | decide | omega)) rfl (W.glo 64) k_reply b_reply (fun σ => passAt tk σ) (by exact (pa_cons (pe_op op_catA (pv 2) (pe_tup (pa_cons (pv 6) pa_nil))) (pa_cons (pv 10) pa_nil))))) pe_int (fun _ _ => rfl)) pe_str (nomark _))))) (pss_one (ps_ret pe_bl)) pss_nil)))))))))))))
    (Evl.pss_cut (ps_if (pt_not (pt_val (pe_callB (cr_all rfl) (by rfl) (W.free 3) (by decide +kernel) (pa_cons (pe_lc (own := [("k", 11)]) (g := (gName 11)) (tt := tYes) rfl nd (pi_range1 rfl (W.free 48) (pa_cons pe_int pa_nil)) (blkOk_by (own := [("k", 11)]) (N := ["script", "draw", "known", "places", "names", "turn", "letter", "ahead", "inner", "behind", "wanted", "k", "term", "one"]) (sc := defScope s_law) (by decide +kernel)) (fun _ _ _ _ _ => (pg_name (i := 11) nd rfl (by first | exact Or.inl rfl | exact Or.inr rfl))) (fun _ _ _ _ _ => pts_nil) (fun _ _ _ _ _ => (pe_call F__law_falls (hr.mono (by first | decide | omega)) rfl (W.glo 60) k__law_falls b__law_falls .nil passL (pa_cons (pv 11) (pa_cons (pe_call F__law_odd_terms (hr.mono (by first | decide | omega)) rfl (W.glo 70) k__law_odd_terms b__law_odd_terms .nil passL (pa_cons (pv 1) pa_nil)) (pa_cons (pe_tup (pa_cons pe_str (pa_cons pe_str pa_nil))) pa_nil)))))) pa_nil)))) (pss_one (ps_ret pe_bl)) pss_nil)
    (pss_one (ps_ret (pe_and (by exact (pe_callS F__law_falls (hr.mono (by first | decide | omega)) rfl (W.glo 60) k__law_falls b__law_falls (fun σ => passAt tk σ) (by exact (pa_cons pe_int (pa_cons (pe_tup pa_nil) (pa_cons (by exact (pe_callS F__law_odd_term (hr.mono (by first | decide | omega)) rfl (W.glo 61) k__law_odd_term b__law_odd_term (fun σ => passAt tk σ) (by exact (pa_cons (pv 1) pa_nil)))) pa_nil)))))) (pe_one (by exact (pe_callS F__law_falls (hr.mono (by first | decide | omega)) rfl (W.glo 60) k__law_falls b__law_falls (fun σ => passAt tk σ) (by exact (pa_cons pe_int (pa_cons (pe_tup pa_nil) (pa_cons (by exact (pe_callS F__law_odd_term (hr.mono (by first | decide | omega)) rfl (W.glo 61) k__law_odd_term b__law_odd_term (fun σ => passAt tk σ) (by exact (pa_cons (pv 1) pa_nil)))) pa_nil))))))))))))))))), ?_⟩
    obtain ⟨a, ns, rfl, hl, hs, hq⟩ := h
    clear tk po
    have szl := sizeLine_eq
    refine seq_of (asg_call (vs := [.ref a]) (fun R h => ⟨_, rfl, h⟩) ⟨a, ns, rfl, hs, hl, fun dr cs H1 sm0 hdr0 hcs0 hD => ?_⟩)
    simp only [L2.start, List.map_cons, List.map_nil, List.length_cons, List.length_nil, List.replicate_succ, List.replicate_zero, List.append_nil, List.nil_append, List.cons_append, Nat.reduceAdd, Nat.reduceSub, List.set_cons_zero, List.set_cons_succ]
    simp only [cxOf_K]
    refine seq_of ?_
    walk_at "x"
    refine ⟨dr, cs, rfl, hD, fun q0 ka pb kxs known m rows ex H2 k2 hq0 hka hkx hpb hm1 hm2 chn hex hexn hperm hexl => ⟨q0, rfl, _, hq0, rfl, _, _, rfl, _, _, rfl, rfl, ?_⟩⟩
    have hD2 := k2.2
    have knl : known.length ≤ 8 := by
      have h1 := hperm.length_eq
      have h2 := chn.len
      rw [List.length_append] at h1
      omega
    have kmem : ∀ t, t ∈ known ↔ t ∈ rows ∨ t ∈ ex := fun t => by rw [hperm.mem_iff, List.mem_append]
    have ksm : ∀ t ∈ known, t.size ≤ 5 ∧ t.depth ≤ 3 := fun t ht => by
      rcases (kmem t).mp ht with h | h
      · exact chn.small t h
      · exact exs_small t (hex t h)
    have knd : known.Nodup := hperm.nodup_iff.mpr (chn.nodup (by omega) hm2 hex hexn)
    have hasS : ∀ {k2 ev : List Te}, (∀ t ∈ known, t ∈ k2) → Cl k2 ev .s := fun h => chn.has (by omega) fun r hr => .known (h r ((kmem r).mpr (.inl hr)))
    have gS : ∀ {H' : Hp} {a' : Addr} {ys : List V} {kn : List Te} {v : V} {t : Te}, SqT K H' a' ys → Trs K H' ys kn → kn.length ≤ 8 → (∀ t ∈ kn, t.size ≤ 5 ∧ t.depth ≤ 3) → Tr K H' v t → t.size ≤ 5 → t.depth ≤ 3 → Args K H' a' ys kn v t := fun h1 h2 h3 h4 h5 h6 h7 => by
      refine ⟨h1, h2, h5, fun t ht => ⟨⟨by have := h4 t ht; omega, by have := h4 t ht; omega⟩, by have := h4 t ht; omega⟩, ⟨⟨by omega, by omega⟩, by omega⟩, h3, ?_⟩
      rename_i kn v t
      have := sizes_mul (z := 5) (ts := kn ++ [t]) fun u hu => by
        rcases List.mem_append.mp hu with h | h
        · exact (h4 u h).1
        · rw [List.mem_singleton.mp h]; exact h6
      rw [List.length_append, List.length_singleton] at this
      omega
    refine cut_of (fun σ H' => Lc a dr ka pb σ ∧ Same H2 H') ?_ ?_
    · walk_at "x"
      refine ⟨by decide, fun p1 hp1 => ?_⟩
      have s1 := Same.new (o := HO.tup [V.str (Str.ofString "name"), V.str (Str.ofString "s")]) hp1
      have t1 : Tr K _ (.ref p1) .s := tmk (K := K) hp1 rfl (.cons (.str (Str.ofString "name")) (.cons (.str (Str.ofString "s")) .nil))
      have g1 := gS ((Tx.of s1).sqt hka) (Trs.sm s1 hkx) knl ksm t1 (by decide) (by decide)
      refine .inl ⟨ka, kxs, known, _, .s, rfl, g1, (fun t ht => by have := ksm t ht; omega), by decide, fun p2 ps H3 s3' hp2 hn => ?_, fun H3 s3 hn => absurd (hasS fun _ h => h) hn⟩
      have s3 := Same.trans s1 s3'
      rw [chn.need (by omega) hm2 hex hexn hperm hn] at hp2
      refine rNeIt hp2 ((Tx.of s3).sqt hpb) ⟨_, rfl, iteF ⟨by decide, fun p3 hp3 => ?_⟩⟩
      have s4' := Same.new (o := HO.tup [V.str (Str.ofString "name"), V.str (Str.ofString "s")]) hp3
      have s4 := Same.trans s3 s4'
      have t3 : Tr K _ (.ref p3) .s := tmk (K := K) hp3 rfl (.cons (.str (Str.ofString "name")) (.cons (.str (Str.ofString "s")) .nil))
      refine reply_call (gS ((Tx.of s4).sqt hka) (Trs.sm s4 hkx) knl ksm t3 (by decide) (by decide)) fun q p W0 H5 s5' hq1 alt => ?_
      have s5 := Same.trans s4 s5'
      rcases alt with ⟨_, rfl⟩ | ⟨hn, rfl⟩
      · refine ⟨q, rfl, _, hq1, _, atI_nat (j := 0) rfl, rNeS (by decide +kernel) (by decide +kernel) ⟨_, rfl, ?_⟩⟩
        rw [decide_eq_true rfl]
        exact iteF ⟨⟨_, _, _, _, _, _, _, _, _, _, rfl⟩, s5⟩
      · exact absurd (hasS fun _ h => h) hn
    rintro σ H3 ⟨⟨y4, y5, y6, y7, y8, y9, y10, y11, y12, y13, rfl⟩, s3⟩
    replace hka := (Tx.of s3).sqt hka
    replace hkx := Trs.sm s3 hkx
    replace hpb := (Tx.of s3).sqt hpb
    have hD3 := Dr.of_eq s3 hD2
    clear s3 k2 hq0 hD2
    refine cut_of (fun σ H' => Lc a dr ka pb σ ∧ Same H3 H') ?_ ?_
    · walk_at "x"
      obtain ⟨k0, ks, hk0⟩ : ∃ k0 ks, plc known rows = k0 :: ks := by
        cases e : plc known rows with
        | cons k0 ks => exact ⟨k0, ks, rfl⟩
        | nil =>
          have hr0 := List.getElem?_eq_getElem (l := rows) (i := 0) (by have := chn.len; omega)
          have hrk := (kmem _).mpr (.inl (List.mem_of_getElem? hr0))
          obtain ⟨j, hj, ej⟩ := List.getElem_of_mem hrk
          have : j ∈ plc known rows := plc_mem.mpr ⟨hj, by rw [List.getD_eq_getElem?_getD, List.getElem?_eq_getElem hj, ej]; exact List.mem_of_getElem? hr0⟩
          rw [e] at this
          cases this
      have hk0m := plc_mem.mp (show k0 ∈ plc known rows by rw [hk0]; exact List.mem_cons_self ..)
      have hix : (iv (plc known rows))[0]? = some (V.int ((k0 : Nat) : Int)) := by rw [hk0]; rfl
      have hkl := hkx.len
      obtain ⟨v0, hv0, tv0⟩ := hkx.at (getD_at hk0m.1)
      have e1 : ((k0 : Nat) : Int) + 1 = ((k0 + 1 : Nat) : Int) := by omega
      refine ⟨_, hpb, _, atI_nat (j := 0) hix, _, rfl, slA hka fun pA H4 s4 hA => ⟨_, (Tx.of s4).sqt hpb, _, atI_nat (j := 0) hix, _, rfl, slA ((Tx.of s4).sqt hka) fun pB H5 s5' hB => catA ((Tx.of s5').sqt hA) hB ?_ fun pC H6 s6' hC => ?_⟩⟩
      · have h1 := cutV_length kxs none (some ((k0 : Nat) : Int))
        have h2 := cutV_length kxs (some (((k0 : Nat) : Int) + 1)) none
        omega
      rw [e1, cut_drop (by omega), cut_take (by omega)] at hC
      have s5 := Same.trans s4 s5'
      have s6 := Same.trans s5 s6'
      have hkn : Trs K H6 (kxs.take k0 ++ kxs.drop (k0 + 1)) (known.take k0 ++ known.drop (k0 + 1)) := Trs.app (Trs.sm s6 hkx).take (Trs.sm s6 hkx).drop
      have knin : ∀ t ∈ known.take k0 ++ known.drop (k0 + 1), t ∈ known ∧ t ≠ known.getD k0 .s := fun t ht => by
        rcases List.mem_append.mp ht with h | h
        · refine ⟨List.mem_of_mem_take h, fun e => ?_⟩
          obtain ⟨j, hj, ej⟩ := List.getElem_of_mem h
          rw [List.length_take] at hj
          rw [List.getElem_take] at ej
          have e2 : known.getD j .s = known.getD k0 .s := by rw [← e, List.getD_eq_getElem?_getD, List.getElem?_eq_getElem (by omega), ej]; rfl
          have := nodup_getD knd (by omega) hk0m.1 e2
          omega
        · refine ⟨List.mem_of_mem_drop h, fun e => ?_⟩
          obtain ⟨j, hj, ej⟩ := List.getElem_of_mem h
          rw [List.length_drop] at hj
          rw [List.getElem_drop] at ej
          have e2 : known.getD (k0 + 1 + j) .s = known.getD k0 .s := by rw [← e, List.getD_eq_getElem?_getD, List.getElem?_eq_getElem (by omega), ej]; rfl
          have := nodup_getD knd (by omega) hk0m.1 e2
          omega
      have hl0 := ksm _ (List.mem_of_getElem? (getD_at hk0m.1))
      have hknl : (known.take k0 ++ known.drop (k0 + 1)).length ≤ 8 := by
        rw [List.length_append, List.length_take, List.length_drop]
        omega
      refine ⟨_, (Tx.of s6).sqt hpb, _, atI_nat (j := 0) hix, kxs, _, rfl, (Tx.of s6).sqt hka, v0, atI_nat hv0, .inl ⟨pC, _, _, v0, known.getD k0 .s, rfl, gS hC hkn hknl (fun t ht => ksm t (knin t ht).1) (Tr.sm s6 tv0) hl0.1 hl0.2, fun p us ts H7 s7' hp hus htn htok htm => ?_⟩⟩
      have s7 := Same.trans s6 s7'
      have hsts : Te.s ∈ ts := (htm .s).mpr ⟨hasS fun t ht => by
        obtain ⟨j, hj, ej⟩ := List.getElem_of_mem ht
        rcases Nat.lt_trichotomy j k0 with q | q | q
        · exact List.mem_append_left _ (List.mem_append_left _ (List.mem_iff_getElem.mpr ⟨j, by rw [List.length_take]; omega, by rw [List.getElem_take]; exact ej⟩))
        · refine List.mem_append_right _ (List.mem_singleton.mpr ?_)
          subst q
          rw [List.getD_eq_getElem?_getD, List.getElem?_eq_getElem hj, ej]
          rfl
        · exact List.mem_append_left _ (List.mem_append_right _ (List.mem_iff_getElem.mpr ⟨j - (k0 + 1), by rw [List.length_drop]; omega, by rw [List.getElem_drop]; simpa [show k0 + 1 + (j - (k0 + 1)) = j by omega] using ej⟩)), by
        obtain ⟨i, hi, ei⟩ := List.getElem_of_mem hk0m.2
        exact chn.lacks (by omega) hm2 hex (i := i) (r := known.getD k0 .s) (by rw [List.getElem?_eq_getElem hi, ei]) fun t ht => ⟨(kmem t).mp (knin t ht).1, (knin t ht).2⟩⟩
      have husl := hus.len
      have hosts : Te.s ∈ ordE ts := (ordE_perm ts).mem_iff.mpr hsts
      have hpos : 0 < (ordE ts).length := List.length_pos_of_mem hosts
      have hune : us ≠ [] := fun e => by rw [e] at husl; simp at husl; omega
      refine slA hp fun pD H8 s8' hD8 => ⟨by decide, fun pE hpE => ?_⟩
      rw [cut_last hune] at hD8
      have sE := Same.new (o := HO.tup []) hpE
      have s8 := Same.trans s7 (Same.trans s8' sE)
      refine rEqTt ((Tx.of sE).sqt hD8) (SqT.of upd_same) (Trs.sm (Same.trans s8' sE) hus).drop .nil (fun t ht => htok t ((ordE_perm ts).mem_iff.mp (List.mem_of_mem_drop ht))) ⟨_, rfl, ?_⟩
      rw [decide_eq_false (fun e => by
        have := congrArg List.length e
        rw [List.length_drop] at this
        simp at this
        omega)]
      refine iteF ⟨by decide, fun p1 hp1 => ?_⟩
      have s1 := Same.new (o := HO.tup [V.str (Str.ofString "name"), V.str (Str.ofString "s")]) hp1
      have t1 : Tr K _ (.ref p1) .s := tmk (K := K) hp1 rfl (.cons (.str (Str.ofString "name")) (.cons (.str (Str.ofString "s")) .nil))
      have s9 := Same.trans s8 s1
      refine .inl ⟨ka, kxs, known, rfl, (Tx.of s9).sqt hka, Trs.sm s9 hkx, (fun t ht => ⟨⟨by have := ksm t ht; omega, by have := ksm t ht; omega⟩, by have := ksm t ht; omega⟩), knl, ?_, fun p us2 ts2 H10 s10 hp2 hus2 htn2 htok2 htm2 => ?_⟩
      · have := sizes_mul fun t ht => (ksm t ht).1
        omega
      refine ⟨.s, ordE ts2, p, us2, rfl, .inr hp2, hus2, Tr.sm s10 t1, ⟨by decide, by decide⟩, _, rfl, ?_⟩
      rw [decide_eq_true ((ordE_perm ts2).mem_iff.mpr ((htm2 .s).mpr (hasS fun _ h => h)))]
      exact iteF ⟨⟨_, _, _, _, _, _, _, _, _, _, rfl⟩, Same.trans s9 s10⟩
    clear y4 y5 y6 y7 y8 y9 y10 y11 y12 y13
    rintro σ H4 ⟨⟨y4, y5, y6, y7, y8, y9, y10, y11, y12, y13, rfl⟩, s4⟩
    have hD4 := Dr.of_eq s4 hD3
    clear s4 hka hkx hpb chn hex hexn hperm hexl kmem ksm knd hasS gS knl
    refine seq_of ?_
    refine ⟨by decide, fun p1 h1 => ⟨by decide, fun p2 h2 => ⟨by decide, fun p3 h3 => ⟨by decide, fun p4 h4 => ⟨by decide, fun p5 h5 => ⟨by show 5 ≤ sizeLine; decide, fun nm h6 => ?_⟩⟩⟩⟩⟩⟩
    have t1 : Tr K _ (.ref p1) .s := new_tup (K := K) h1 (.cons (.str (Str.ofString "name")) (.cons (.str (Str.ofString "s")) .nil))
    have t2 : Tr K _ (.ref p2) .k := new_tup (K := K) h2 (.cons (.str (Str.ofString "name")) (.cons (.str (Str.ofString "k")) .nil))
    have t3 : Tr K _ (.ref p3) .n := new_tup (K := K) h3 (.cons (.str (Str.ofString "new")) (.cons (.str (Str.ofString "n")) (.cons (.int 0) .nil)))
    have t4 : Tr K _ (.ref p4) .own := new_tup (K := K) h4 (.cons (.str (Str.ofString "own")) (.cons (.int 1) .nil))
    have t5 : Tr K _ (.ref p5) .x := new_tup (K := K) h5 (.cons (.str (Str.ofString "var")) (.cons (.str (Str.ofString "x")) (.cons (.int 0) .nil)))
    have s6 := Same.new (o := HO.lst [V.ref p1, V.ref p2, V.ref p3, V.ref p4, V.ref p5]) h6
    have s5 := Same.trans (Same.new (o := HO.tup [V.str (Str.ofString "var"), V.str (Str.ofString "x"), V.int 0]) h5) s6
    have s4 := Same.trans (Same.new (o := HO.tup [V.str (Str.ofString "own"), V.int 1]) h4) s5
    have s3 := Same.trans (Same.new (o := HO.tup [V.str (Str.ofString "new"), V.str (Str.ofString "n"), V.int 0]) h3) s4
    have s2 := Same.trans (Same.new (o := HO.tup [V.str (Str.ofString "name"), V.str (Str.ofString "k")]) h2) s3
    have s1 := Same.trans (Same.new (o := HO.tup [V.str (Str.ofString "name"), V.str (Str.ofString "s")]) h1) s2
    have hnm := NmAt.mk (K := K) ⟨_, upd_same, .cons (Tr.sm s2 t1) (.cons (Tr.sm s3 t2) (.cons (Tr.sm s4 t3) (.cons (Tr.sm s5 t4) (.cons (Tr.sm s6 t5) .nil))))⟩
    have nne : nm ≠ dr := fun e => by
      obtain ⟨_, _, _, _, g0, _, _⟩ := hD4
      have := s5
      rw [e] at h6
      have hh := (Same.trans (Same.new (o := HO.tup [V.str (Str.ofString "name"), V.str (Str.ofString "s")]) h1) (Same.trans (Same.new (o := HO.tup [V.str (Str.ofString "name"), V.str (Str.ofString "k")]) h2) (Same.trans (Same.new (o := HO.tup [V.str (Str.ofString "new"), V.str (Str.ofString "n"), V.int 0]) h3) (Same.trans (Same.new (o := HO.tup [V.str (Str.ofString "own"), V.int 1]) h4) (Same.new (o := HO.tup [V.str (Str.ofString "var"), V.str (Str.ofString "x"), V.int 0]) h5))))) _ _ g0.d
      rw [h6] at hh; cases hh
    have lw : LW K _ dr cs nm := ⟨Dr.of_eq s1 hD4, hnm, nne⟩
    clear t1 t2 t3 t4 t5 s2 s3 s4 s5 s6 hnm nne s1
    simp only [gName, List.set_cons_zero, List.set_cons_succ]
    clear y4
    refine cut_of (fun σ H' => Lm a dr nm σ ∧ LW K H' dr cs nm) ?_ ?_
    · refine tFor_same (walk_range (lo := 0) (n := 4)) ?_ (fun i σ H' => Lm a dr nm σ ∧ LW K H' dr cs nm) ⟨⟨_, _, _, _, _, _, _, _, _, _, _, rfl⟩, lw⟩ (fun _ _ _ _ _ => trivial) ?_ (fun σ H' h => h)
      · intro R hR
        simp only [iRng1]
        walk_at "x"
        exact ⟨by decide, by decide, hR⟩
      · clear lw y5 y6 y7 y8 y9 y10 y11 y12 y13 hD3 hD4
        rintro i x0 σ H2 H3 hi ⟨⟨y2, y3, y5, y6, y7, y8, y9, y10, y11, y12, y13, rfl⟩, lw⟩ ⟨rfl, rfl⟩
        show tSeq _ _ _ _ _
        refine seq_of ?_
        walk_at "x"
        refine ⟨dr, cs, nm, rfl, lw.d, lw.n, lw.ne, fun ka kxs kts H4 kp4 hka hkx hsz => ?_⟩
        have lw4 := lw.kp kp4
        refine ⟨dr, cs, nm, 3, rfl, by decide, lw4.d, lw4.n, lw4.ne, fun x t H5 kp5 hlx hz hd => ?_⟩
        have lw5 := lw4.kp kp5
        have hz' : t.size ≤ 22 := hz
        have ha5 := (kp5.tx lw4.d).sqt hka
        have hx5 := hkx.tx (kp5.tx lw4.d)
        have hsm := evE_small hsz.2 ⟨hz', hd⟩
        have ka_ne : (kts ++ [t]).length ≤ 6 := by rw [List.length_append, List.length_singleton]; have := hsz.1; omega
        have oks : ∀ u ∈ kts ++ [t], u.ok := fun u hu => by
          have := hsm u (subsT_self hu)
          exact ⟨by omega, by omega⟩
        have szs : sizes (kts ++ [t]) ≤ 132 := by
          have := sizes_mul (z := 22) (ts := kts ++ [t]) fun u hu => (hsm u (subsT_self hu)).1
          omega
        have szk : sizes kts ≤ 132 := by rw [sizes_app] at szs; omega
        have kl := hsz.1
        have kxl := hx5.len
        refine ⟨by decide, fun p1 hp1 => ⟨_, SqT.of upd_same, rfl, _, _, rfl, _, _, rfl, rfl, by decide, fun p2 hp2 => ?_⟩⟩
        have s6 := Same.trans (Same.new (o := HO.tup [.ref ka, x]) hp1) (Same.new (o := HO.lst [x]) hp2)
        refine ⟨ka, kxs, kts, p2, [x], [t], rfl, ⟨(Tx.of s6).sqt ha5, Trs.sm s6 hx5, upd_same, .cons (Tr.sm s6 hlx) .nil, oks, by omega, by simp, by omega⟩, fun R rs rws n H7 s7' hR hrs hI hcl hfl => ⟨R, rs, rws, rfl, hR, hrs, hfl, fun hA avs H8 s8' hA0 hA1 hav => ?_⟩⟩
        have s7 := Same.trans s6 s7'
        have s8 := Same.trans s7 s8'
        refine ⟨ka, rfl, kxs, .inr ((Tx.of s8).sqt ha5), fun l hl => ⟨by decide, fun p3 hp3 => ?_⟩⟩
        have s9' := Same.trans (Same.new (o := HO.lst kxs) hl) (Same.new (o := HO.lst [x]) hp3)
        have s9 := Same.trans s8 s9'
        have hll : (upd (upd H8 l (HO.lst kxs)) p3 (HO.lst [x])) l = some (.lst kxs) := by
          rw [upd_ne (fun e => by rw [← e, upd_same] at hp3; cases hp3), upd_same]
        refine ⟨l, p3, kxs, [x], rfl, rfl, hll, upd_same, by rw [List.length_singleton]; omega, fun l2 hl2 => ?_⟩
        have s10' := Same.new (o := HO.lst (kxs ++ [x])) hl2
        have s10 := Same.trans s9 s10'
        refine ⟨l2, _, kts ++ [t], rfl, .l upd_same, Trs.snoc (Trs.sm s10 hx5) (Tr.sm s10 hlx), oks, by omega, fun hE evs es H11 s11' hE0 hE1 hev hnd hmem => ?_⟩
        have s11 := Same.trans s10 s11'
        refine ⟨by decide, fun p4 hp4 => ⟨_, SqT.of upd_same, rfl, _, _, rfl, _, _, rfl, rfl, by decide, fun p5 hp5 => ?_⟩⟩
        have s12' := Same.trans (Same.new (o := HO.tup [.ref hA, .ref hE]) hp4) (Same.new (o := HO.tup [x]) hp5)
        have s12 := Same.trans s11 s12'
        refine catA ((Tx.of s12).sqt ha5) (SqT.of upd_same) (by rw [List.length_singleton]; omega) fun pK H13 s13' hK => ⟨by decide, fun p6 hp6 => ?_⟩
        have s14' := Same.new (o := HO.lst []) hp6
        have s14 := Same.trans s12 (Same.trans s13' s14')
        have en : kts ++ [t] ++ [] = kts ++ [t] := List.append_nil _
        refine ⟨pK, kxs ++ [x], kts ++ [t], p6, [], [], rfl, ⟨(Tx.of s14').sqt hK, Trs.snoc (Trs.sm s14 hx5) (Tr.sm s14 hlx), upd_same, .nil, by rw [en]; exact oks, by omega, by simp, by rw [en]; omega⟩, fun R2 rs2 rws2 n2 H15 s15' hR2 hrs2 hI2 hcl2 hfl2 => ⟨R2, rs2, rws2, rfl, hR2, hrs2, hfl2, fun hB bvs H16 s16' hB0 hB1 hbv => ?_⟩⟩
        rw [en] at hI2 hcl2
        have s15 := Same.trans s14 s15'
        have s16 := Same.trans s15 s16'
        have s11t := Same.trans s12' (Same.trans s13' (Same.trans s14' (Same.trans s15' s16')))
        have s8t := Same.trans s9' (Same.trans s10' (Same.trans s11' s11t))
        have g : LF K H16 dr cs nm ka hA hE hB kxs avs evs bvs x kts rws.flatten es rws2.flatten t := ⟨lw5.same s16, (Tx.of s16).sqt ha5, Trs.sm s16 hx5, Tr.sm s16 hlx, s8t _ _ hA1, Trs.sm s8t hav, s11t _ _ hE1, Trs.sm s11t hev, hB1, hbv⟩
        have hp : LP kts rws.flatten es rws2.flatten t := ⟨hsz, ⟨hz', hd⟩, fun u => by rw [hI.flat]; exact ⟨fun r => ⟨n, r⟩, fun ⟨m, r⟩ => rnd_end hcl m u r⟩, fun u => by rw [hI2.flat]; exact ⟨fun r => ⟨n2, r⟩, fun ⟨m, r⟩ => rnd_end hcl2 m u r⟩, fun u => by rw [hmem]; exact (subsT_mem _ u).symm, hnd, hfl, hfl2⟩
        have nA : hA ≠ dr := Dr.new (lw5.same s7).d hA0
        have nE : hE ≠ dr := Dr.new (lw5.same s10).d hE0
        have nB : hB ≠ dr := Dr.new (lw5.same s15).d hB0
        generalize rws.flatten = as at g hp
        generalize rws2.flatten = bs at g hp
        clear hA0 hE0 hB0 s11t s8t s16' s15' s14' s13' s12' s11' s10' s9' s8' s7' s16 s15 s14 s12 s11 s10 s9 s8 s7 s6 hbv hav hev hB1 hA1 hE1 hI2 hcl2 hR2 hrs2 hfl2 hR hrs hI hcl hfl hmem hnd hll hlx ha5 hx5 lw5 lw4 lw kp5 kp4 hka hkx
        clear hK
        refine cut_of (fun σ H' => Ln a dr nm ka hA hE hB x σ ∧ Same H16 H') ?_ ?_
        · walk_at "x"
          have kl := hp.kn
          have kxl := g.hx.len
          refine .inl ⟨ka, kxs, kts, rfl, g.ha, g.hx, hp.okk, by omega, by have := hp.szk; omega, fun p us ts H1 s1 hp1 hus htn htok htm => ?_⟩
          have g1 := g.same s1
          have en : kts ++ [] = kts := List.append_nil _
          refine tLc_made (C := fun J H5 zs => ∃ q fs, J = Itl K q ∧ Same H1 H5 ∧ H5 q = some (.lst zs) ∧ Trs K H5 zs fs ∧ (∀ u, u ∈ fs ↔ Cl kts (subsT kts) u) ∧ fs.length ≤ 500) (fun R hR => ?_) ?_
          · simp only [iList]
            walk_at "x"
            refine ⟨by decide, fun p6 hp6 => ?_⟩
            have s6 := Same.new (o := HO.lst []) hp6
            refine ⟨ka, kxs, kts, p6, [], [], rfl, ⟨(Tx.of s6).sqt g1.ha, Trs.sm s6 g1.hx, upd_same, .nil, by rw [en]; exact fun u hu => (hp.okk u hu).1, by omega, by simp, by rw [en]; have := hp.szk; omega⟩, fun R2 rs2 rws2 n2 H15 s15 hR2 hrs2 hI2 hcl2 hfl2 => ⟨R2, rs2, rws2, rfl, hR2, hrs2, hfl2, fun q zs H6 s16 h0 h1 hz => ⟨q, rfl, ⟨_, SqL.of h1⟩, hR _ _ _ ⟨q, rws2.flatten, rfl, Same.trans s6 (Same.trans s15 s16), h1, hz, fun u => ?_, hfl2⟩⟩⟩⟩
            rw [en] at hI2 hcl2
            rw [hI2.flat]
            exact ⟨fun r => ⟨n2, r⟩, fun ⟨m, r⟩ => rnd_end hcl2 m u r⟩
          rintro J H5 zs ⟨q, fs, rfl, s5, hq5, hzs, hfm, hfl⟩
          have hzl := hzs.len
          have g5 := g1.same s5
          have okf : ∀ u ∈ fs, u.ok := fun u hu => subsT_ok (fun u hu => (hp.okk u hu).1) u ((hfm u).mp hu).within0
          refine tLc_filt (walk_list (K := K) (a := q) (xs := zs)) (by omega) hzs (fun R hR => hR) (fun H' s => SqL.of (s _ _ hq5)) (fun _ => rfl) (fun _ => rfl) (fun u => decide (u ∈ subsT kts)) ?_ ?_
          · intro u v H6 R hu hv s6 hR
            have g6 := g5.same s6
            walk_at "x"
            refine ⟨ka, kxs, kts, rfl, .inr g6.ha, g6.hx, (fun u hu => (hp.okk u hu).1), by omega, fun p7 us7 fs7 H7 s7 h0 h1 hus7 hnd hmem => ⟨u, fs7, p7, us7, rfl, .l h1, hus7, Tr.sm s7 hv, okf u hu, _, rfl, ?_⟩⟩
            rw [show decide (u ∈ fs7) = decide (u ∈ subsT kts) from decide_eq_decide.mpr (by rw [hmem, subsT_mem])]
            exact hR H7 s7
          intro D ys H6 s6 hD hD' hys
          have hfl2 := List.length_filter_le (fun u => decide (u ∈ subsT kts)) fs
          refine ⟨D, ys, _, rfl, .l hD', hys, (fun u hu => okf u (List.mem_filter.mp hu).1), by omega, fun pb us2 H7 s7 hpb hpb' hus2 => ?_⟩
          have s17 := Same.trans s5 (Same.trans s6 s7)
          have eo : ordE ts = ordE (dedup (fs.filter fun u => decide (u ∈ subsT kts))) := ordE_set htn (dedup_nodup _) fun u => by
            rw [dedup_mem, List.mem_filter, htm, hfm]
            exact ⟨fun h => ⟨h, decide_eq_true h.within0⟩, fun h => h.1⟩
          refine rNeTt ((Tx.of s17).sqt hp1) (SqT.of hpb') (Trs.sm s17 hus) hus2 (fun u hu => htok u ((ordE_perm ts).mem_iff.mp hu)) ⟨_, rfl, ?_⟩
          rw [decide_eq_true eo]
          exact iteF ⟨⟨_, _, _, _, _, _, rfl⟩, Same.trans s1 s17⟩
        clear y2 y3 y5 y6 y7 y8 y9 y10 y11 y12 y13
        rintro σ H17 ⟨⟨y3, y5, y10, y11, y12, y13, rfl⟩, s17⟩
        replace g := g.same s17
        refine cut_of (fun σ H' => Ln a dr nm ka hA hE hB x σ ∧ Same H17 H') ?_ ?_
        · walk_at "x"
          refine .inl ⟨ka, kxs, kts, x, t, rfl, hp.args g.ha g.hx g.hl self_ev, fun p us ts H1 s1 hp1 hus htn htok htm => ?_⟩
          have g1 := g.same s1
          have hzl := g.Bt.len
          have hbl := hp.bl
          have okf : ∀ u ∈ bs, u.ok := fun u hu => hp.okE u ((hp.bm u).mp hu).within2
          refine tLc_filt (walk_list (K := K) (a := hB) (xs := bvs)) (by omega) g1.Bt (fun R hR => ⟨_, rfl, hB, rfl, ⟨_, SqL.of g1.B⟩, hR⟩) (fun H' s => SqL.of (s _ _ g1.B)) (fun _ => rfl) (fun _ => rfl) (fun u => decide (u ∈ es) && !decide (u ∈ as)) ?_ ?_
          · intro u v H6 R hu hv s6 hR
            have g6 := g1.same s6
            walk_at "x"
            refine ⟨u, es, hE, evs, rfl, .l g6.E, g6.Et, hv, okf u hu, _, rfl, ?_⟩
            by_cases hue : u ∈ es
            · rw [decide_eq_true hue] at hR ⊢
              refine iteT ⟨u, as, hA, avs, rfl, .l g6.A, g6.At, hv, okf u hu, _, rfl, ?_⟩
              exact hR H6 (Same.refl _)
            · rw [decide_eq_false hue] at hR ⊢
              exact iteF (hR H6 (Same.refl _))
          intro D ys H6 s6 hD hD' hys
          have hfl2 := List.length_filter_le (fun u => decide (u ∈ es) && !decide (u ∈ as)) bs
          refine ⟨D, ys, _, rfl, .l hD', hys, (fun u hu => okf u (List.mem_filter.mp hu).1), by omega, fun pb us2 H7 s7 hpb hpb' hus2 => ?_⟩
          have s17 := Same.trans s6 s7
          have eo : ordE ts = ordE (dedup (bs.filter fun u => decide (u ∈ es) && !decide (u ∈ as))) := ordE_set htn (dedup_nodup _) fun u => by
            rw [dedup_mem, List.mem_filter, htm, hp.bm, Bool.and_eq_true, decide_eq_true_eq, hp.em, Bool.not_eq_true', decide_eq_false_iff_not, hp.am]
            exact ⟨fun h => ⟨h.1, h.1.within2, h.2⟩, fun h => ⟨h.1, h.2.2⟩⟩
          refine rNeTt ((Tx.of s17).sqt hp1) (SqT.of hpb') (Trs.sm s17 hus) hus2 (fun u hu => htok u ((ordE_perm ts).mem_iff.mp hu)) ⟨_, rfl, ?_⟩
          rw [decide_eq_true eo]
          exact iteF ⟨⟨_, _, _, _, _, _, rfl⟩, Same.trans s1 s17⟩
        clear y3 y5 y10 y11 y12 y13
        rintro σ H18 ⟨⟨y3, y5, y10, y11, y12, y13, rfl⟩, s18⟩
        replace g := g.same s18
        refine cut_of (fun σ H' => Ln a dr nm ka hA hE hB x σ ∧ Same H18 H') ?_ ?_
        · walk_at "x"
          refine .inl ⟨ka, kxs, kts, x, t, rfl, hp.args g.ha g.hx g.hl self_ev, fun p us ts H1 s1 hp1 hus htn htok htm => ⟨by decide, fun p7 hp7 => ?_⟩⟩
          have s2' := Same.new (o := HO.tup []) hp7
          have s2 := Same.trans s1 s2'
          have hzl := g.Bt.len
          have hbl := hp.bl
          refine rEqTt ((Tx.of s2').sqt hp1) (SqT.of upd_same) (Trs.sm s2' hus) .nil (fun u hu => htok u ((ordE_perm ts).mem_iff.mp hu)) ?_
          have g2 := g.same s2
          generalize (upd H1 p7 (HO.tup [])) = H2 at s2 s2' g2 ⊢
          refine tAllT (walk_list (K := K) (a := hB) (xs := bvs)) (by omega) g2.Bt (fun R hR => ⟨_, rfl, hB, rfl, ⟨_, SqL.of g2.B⟩, hR⟩) (fun H' s => SqL.of (s _ _ g2.B)) (fun _ => rfl) (fun u => decide (u ∈ as)) ?_ ?_
          · intro u v H6 R hu hv s6 hR
            have g6 := g2.same s6
            walk_at "x"
            exact ⟨u, as, hA, avs, rfl, .l g6.A, g6.At, hv, hp.okE u ((hp.bm u).mp hu).within2, hR H6 (Same.refl _)⟩
          intro H3 s3
          have eb : decide (ordE ts = []) = bs.all fun u => decide (u ∈ as) := by
            by_cases hz : ∀ u ∈ bs, u ∈ as
            · rw [List.all_eq_true.mpr fun u hu => decide_eq_true (hz u hu)]
              refine decide_eq_true (List.eq_nil_iff_forall_not_mem.mpr fun u hu => ?_)
              have h := (htm u).mp ((ordE_perm ts).mem_iff.mp hu)
              exact h.2 ((hp.am u).mp (hz u ((hp.bm u).mpr h.1)))
            · obtain ⟨u, hu⟩ := Classical.not_forall.mp hz
              obtain ⟨hu1, hu2⟩ := Classical.not_imp.mp hu
              have : (bs.all fun u => decide (u ∈ as)) = false := List.all_eq_false.mpr ⟨u, hu1, by simpa using hu2⟩
              rw [this]
              refine decide_eq_false fun e => ?_
              have h := (ordE_perm ts).mem_iff.mpr ((htm u).mpr ⟨(hp.bm u).mp hu1, fun h => hu2 ((hp.am u).mpr h)⟩)
              rw [e] at h
              cases h
          rw [eb]
          refine ⟨rfl, ?_⟩
          rw [decide_eq_true rfl]
          exact iteF ⟨⟨_, _, _, _, _, _, rfl⟩, Same.trans s2 s3⟩
        clear y3 y5 y10 y11 y12 y13
        rintro σ H19 ⟨⟨y3, y5, y10, y11, y12, y13, rfl⟩, s19⟩
        replace g := g.same s19
        clear s17 s18 s19
        walk_at "x"
        have hel := g.Et.len
        have helE : es.length ≤ 500 := by
          have h1 := nodup_len hp.en fun u hu => (hp.em u).mp hu
          have h2 := subsT_len (kts ++ [t])
          have h3 := hp.szs hp.tz.1
          have e : (evE kts t).length = (subsT (kts ++ [t])).length := rfl
          omega
        have hpos : 0 < es.length := List.length_pos_of_mem ((hp.em t).mpr self_ev)
        refine ⟨evs.length, len_l g.E, dr, cs, _, rfl, by omega, by omega, g.lw.d, fun m H20 hm fr hD20 => ?_⟩
        replace g := g.kp (Kp.of fr hD20) nA nE nB
        clear fr hD20
        have hml : m < evs.length := by omega
        have hgv := List.getElem?_eq_getElem hml
        obtain ⟨wt, hwt, hvt⟩ := g.Et.get hgv
        have hwE := (hp.em wt).mp (List.mem_of_getElem? hwt)
        have hwz := evE_small hp.sz.2 hp.tz wt hwE
        refine ⟨_, _, rfl, SqL.of g.E, _, atI_nat hgv, needed_call (hp.args g.ha g.hx hvt hwE) (fun u hu => by have := hp.sz.2 u hu; omega) (by omega) fun pv H21 s21 pl => ?_⟩
        generalize evs[m] = v at hvt ⊢
        replace g := g.same s21
        replace hvt := Tr.sm s21 hvt
        clear s21 hgv
        refine cut_of (fun σ H' => Lp a dr nm ka hA hE hB x pv v σ ∧ Same H21 H') ?_ ?_
        · walk_at "x"
          refine reply_call (hp.args g.ha g.hx hvt hwE) fun q p W0 H5 s5 hq1 alt => ?_
          refine ⟨q, rfl, _, hq1, _, atI_nat (j := 0) rfl, ?_⟩
          rcases alt with ⟨hin, rfl⟩ | ⟨hnin, rfl⟩
          · refine rEqS (by decide +kernel) (by decide +kernel) ?_
            have e : decide (pv = V.non) = false := by
              rcases pl with ⟨rfl, hn⟩ | ⟨p, ps, rfl, hps, need⟩
              · exact absurd hin hn
              · exact decide_eq_false fun e => by cases e
            rw [e, show decide (Str.ofString "has" = Str.ofString "lacks") = false by decide +kernel]
            refine ⟨rfl, ?_⟩
            rw [decide_eq_true rfl]
            exact iteF ⟨⟨_, _, _, _, rfl⟩, s5⟩
          · refine rEqS (by decide +kernel) (by decide +kernel) ?_
            have e : decide (pv = V.non) = true := by
              rcases pl with ⟨rfl, hn⟩ | ⟨p, ps, rfl, hps, need⟩
              · exact decide_eq_true rfl
              · exact absurd need.all hnin
            rw [e, decide_eq_true (show Str.ofString "lacks" = Str.ofString "lacks" from rfl)]
            refine ⟨rfl, ?_⟩
            rw [decide_eq_true rfl]
            exact iteF ⟨⟨_, _, _, _, rfl⟩, s5⟩
        clear y3 y5 y10 y11 y12 y13
        rintro σ H22 ⟨⟨y5, y11, y12, y13, rfl⟩, s22⟩
        replace g := g.same s22
        replace hvt := Tr.sm s22 hvt
        replace pl := pl.same s22
        clear s22
        refine cut_of (fun σ H' => Lp a dr nm ka hA hE hB x pv v σ ∧ Same H22 H') ?_ ?_
        · rcases pl with ⟨rfl, hn⟩ | ⟨p, ps, rfl, hps, need⟩
          · walk_at "x"
            rw [if_neg (by simp)]
            exact ⟨⟨_, _, _, _, rfl⟩, Same.refl _⟩
          · walk_at "x"
            rw [if_pos (by simp)]
            have hkn := hp.kn
            have hxl := g.hx.len
            have psl : ps.length ≤ 5 := Nat.le_trans (sorted_len need.lt need.bd) hkn
            have hil := iv_len ps
            refine cut_of (fun σ H' => Lp a dr nm ka hA hE hB x (.ref p) v σ ∧ Same H22 H') ?_ ?_
            · walk_at "x"
              simp only [rIsaV]
              walk_at "x"
              refine ⟨by decide, true, .inr ⟨_, hps, rfl⟩, iteF ⟨iv ps, .inr hps, fun l hl => ?_⟩⟩
              have s1 := Same.new (o := HO.lst (iv ps)) hl
              refine sset_call ((Tx.of s1).sqt hps) need.lt (by omega) fun q H3 s13 hq3 => ?_
              have s3 := Same.trans s1 s13
              refine rNeIl (SqL.of (s13 _ _ upd_same)) hq3 ⟨_, rfl, iteF ?_⟩
              refine tLc_map (walk_tup (K := K) (a := p) (xs := iv ps)) (by omega) (fun R hR => ⟨_, rfl, p, rfl, ⟨_, (Tx.of s3).sqt hps⟩, hR⟩) (fun H' s => (Tx.of (Same.trans s3 s)).sqt hps) (fun _ => rfl) (fun i H y => y = .bl true) (fun _ _ _ _ _ h => h) ?_ ?_
              · intro i9 y H2 R hi9 hy s9 hR
                unfold iv at hy
                rw [List.getElem?_map] at hy
                obtain ⟨k, hk, rfl⟩ := Option.map_eq_some_iff.mp hy
                have hkb := need.bd k (List.mem_of_getElem? hk)
                walk_at "x"
                rw [if_pos (by omega)]
                refine ⟨_, kxs.length, rfl, .inr ⟨_, (Tx.of (Same.trans s3 s9)).sqt g.ha, rfl⟩, _, rfl, hR _ _ (Same.refl _) ?_⟩
                rw [decide_eq_true (by omega)]
              intro D1 ys1 H2 s9 hD1 hys1 hyl1 hall1
              have e1 := bls_of (f := fun _ => true) hyl1 (fun i y h => hall1 i y h)
              refine ⟨D1, _, rfl, by rw [← e1]; exact SqL.of hys1, ?_⟩
              rw [all_of, decide_eq_true (fun _ _ => rfl)]
              exact ⟨_, rfl, iteF ⟨⟨_, _, _, _, rfl⟩, Same.trans s3 s9⟩⟩
            clear y5 y11 y12 y13
            rintro σ H23 ⟨⟨y5, y11, y12, y13, rfl⟩, s23⟩
            refine cut_of (fun σ H' => Lp a dr nm ka hA hE hB x (.ref p) v σ ∧ Same H22 H') ?_ ?_
            · walk_at "x"
              refine tLc_sel (K := K) (known := kts) (walk_tup (K := K) (a := p) (xs := iv ps)) (by omega) (fun R hR => ⟨_, rfl, p, rfl, ⟨_, (Tx.of s23).sqt hps⟩, hR⟩) (fun H' s => (Tx.of (Same.trans s23 s)).sqt hps) (fun _ => rfl) (fun _ => true) ?_ ?_ ?_
              · intro k7 H2 R _ _ hR
                exact hR H2 (Same.refl _)
              · intro k7 H2 R hk7 s9 hR
                obtain ⟨u, hu, hut⟩ := g.hx.at (getD_at (need.bd k7 hk7))
                have s29 := Same.trans s23 s9
                walk_at "x"
                exact ⟨kxs, (Tx.of s29).sqt g.ha, u, atI_nat hu, hR _ _ (Same.refl _) (Tr.sm s29 hut)⟩
              intro D ys H2 s9 hD hD2 hys
              rw [show (ps.filter fun _ => true) = ps by simp] at hys
              have s29 := Same.trans s23 s9
              refine ⟨D, rfl, ys, .inl ⟨SqL.of hD2, fun l hl => ⟨by decide, fun p2 hp2 => ?_⟩⟩⟩
              have s3' := Same.trans (Same.new (o := HO.tup ys) hl) (Same.new (o := HO.lst [v]) hp2)
              have s3 := Same.trans s29 s3'
              have hysl := hys.len
              have selin : ∀ u ∈ sel kts (ps), u ∈ kts := sel_in fun k hk => need.bd k (hk)
              have sell : (sel kts (ps)).length ≤ 5 := by rw [sel_len]; exact Nat.le_trans (Nat.le_refl _) psl
              have hsz2 := sizes_mul (z := 22) (ts := sel kts (ps) ++ [wt]) fun u hu => by
                rcases List.mem_append.mp hu with h | h
                · exact (hp.sz.2 u (selin u h)).1
                · rw [List.mem_singleton.mp h]; exact hwz.1
              rw [List.length_append, List.length_singleton] at hsz2
              have la2 : (upd (upd H2 l (HO.tup ys)) p2 (HO.lst [v])) l = some (.tup ys) := by rw [upd_ne (fun e => by rw [← e, upd_same] at hp2; cases hp2), upd_same]
              refine ⟨l, ys, sel kts (ps), p2, [v], [wt], rfl, ⟨SqT.of la2, Trs.sm s3' hys, upd_same, .cons (Tr.sm s3 hvt) .nil, (fun u hu => ?_), by omega, by simp, by omega⟩, fun R rs rws n H5 s5 hR hrs hI hcl hfl => ⟨R, rs, rws, rfl, hR, hrs, hfl, fun q zs H6 s6 h0 h1 hz => ?_⟩⟩
              · rcases List.mem_append.mp hu with h | h
                · exact (hp.okk u (selin u h)).1
                · rw [List.mem_singleton.mp h]; exact hp.okE wt hwE
              have s7 := Same.trans s3 (Same.trans s5 s6)
              refine ⟨wt, rws.flatten, q, zs, rfl, .l h1, hz, Tr.sm s7 hvt, hp.okE wt hwE, _, rfl, ?_⟩
              rw [decide_eq_true ((hI.flat wt).mpr (by obtain ⟨m9, r9⟩ := need.has; exact rnd_end hcl m9 wt r9))]
              exact iteF ⟨⟨_, _, _, _, rfl⟩, Same.trans s23 (Same.trans s9 (Same.trans s3' (Same.trans s5 s6)))⟩
            clear y5 y11 y12 y13
            rintro σ H24 ⟨⟨y5, y11, y12, y13, rfl⟩, s24⟩
            refine tFor_same (walk_tup (K := K) (a := p) (xs := iv ps)) (fun R hR => ?_) (fun i σ H' => Lp a dr nm ka hA hE hB x (.ref p) v σ ∧ Same H22 H') ⟨⟨_, _, _, _, rfl⟩, s24⟩ (fun i σ H' _ h => (Tx.of h.2).sqt hps) ?_ (fun σ H' h => h)
            · simp only [iTup]
              walk_at "x"
              exact ⟨⟨_, (Tx.of s24).sqt hps⟩, hR⟩
            · rintro i8 y σ H25 H26 hi8 ⟨⟨y5, y11, y12, y13, rfl⟩, s25⟩ ⟨rfl, hy⟩
              unfold iv at hy
              rw [List.getElem?_map] at hy
              obtain ⟨k, hk, rfl⟩ := Option.map_eq_some_iff.mp hy
              walk_at "x"
              refine tLc_sel (K := K) (known := kts) (walk_tup (K := K) (a := p) (xs := iv ps)) (by omega) (fun R hR => ⟨_, rfl, p, rfl, ⟨_, (Tx.of s25).sqt hps⟩, hR⟩) (fun H' s => (Tx.of (Same.trans s25 s)).sqt hps) (fun _ => rfl) (fun q => decide (q ≠ k)) ?_ ?_ ?_
              · intro k7 H2 R _ _ hR
                walk_at "x"
                rw [show (!decide (((k7 : Nat) : Int) = ((k : Nat) : Int))) = decide (k7 ≠ k) by
                  by_cases h : k7 = k
                  · subst h; simp
                  · rw [decide_eq_false (by omega), decide_eq_true h]; rfl]
                exact hR H2 (Same.refl _)
              · intro k7 H2 R hk7 s9 hR
                obtain ⟨u, hu, hut⟩ := g.hx.at (getD_at (need.bd k7 hk7))
                have s29 := Same.trans s25 s9
                walk_at "x"
                exact ⟨kxs, (Tx.of s29).sqt g.ha, u, atI_nat hu, hR _ _ (Same.refl _) (Tr.sm s29 hut)⟩
              intro D ys H2 s9 hD hD2 hys
              have hkps := List.mem_of_getElem? hk
              have s29 := Same.trans s25 s9
              refine ⟨D, rfl, ys, .inl ⟨SqL.of hD2, fun l hl => ⟨by decide, fun p2 hp2 => ?_⟩⟩⟩
              have s3' := Same.trans (Same.new (o := HO.tup ys) hl) (Same.new (o := HO.lst [v]) hp2)
              have s3 := Same.trans s29 s3'
              have hysl := hys.len
              have selin : ∀ u ∈ sel kts (ps.filter fun q => decide (q ≠ k)), u ∈ kts := sel_in fun k hk => need.bd k ((List.mem_filter.mp hk).1)
              have sell : (sel kts (ps.filter fun q => decide (q ≠ k))).length ≤ 5 := by rw [sel_len]; exact Nat.le_trans (List.length_filter_le ..) psl
              have hsz2 := sizes_mul (z := 22) (ts := sel kts (ps.filter fun q => decide (q ≠ k)) ++ [wt]) fun u hu => by
                rcases List.mem_append.mp hu with h | h
                · exact (hp.sz.2 u (selin u h)).1
                · rw [List.mem_singleton.mp h]; exact hwz.1
              rw [List.length_append, List.length_singleton] at hsz2
              have la2 : (upd (upd H2 l (HO.tup ys)) p2 (HO.lst [v])) l = some (.tup ys) := by rw [upd_ne (fun e => by rw [← e, upd_same] at hp2; cases hp2), upd_same]
              refine ⟨l, ys, sel kts (ps.filter fun q => decide (q ≠ k)), p2, [v], [wt], rfl, ⟨SqT.of la2, Trs.sm s3' hys, upd_same, .cons (Tr.sm s3 hvt) .nil, (fun u hu => ?_), by omega, by simp, by omega⟩, fun R rs rws n H5 s5 hR hrs hI hcl hfl => ⟨R, rs, rws, rfl, hR, hrs, hfl, fun q zs H6 s6 h0 h1 hz => ?_⟩⟩
              · rcases List.mem_append.mp hu with h | h
                · exact (hp.okk u (selin u h)).1
                · rw [List.mem_singleton.mp h]; exact hp.okE wt hwE
              have s7 := Same.trans s3 (Same.trans s5 s6)
              refine ⟨wt, rws.flatten, q, zs, rfl, .l h1, hz, Tr.sm s7 hvt, hp.okE wt hwE, _, rfl, ?_⟩
              rw [decide_eq_false (fun h => need.min k hkps ⟨n, (hI.flat wt).mp h⟩)]
              exact iteF ⟨⟨_, _, _, _, rfl⟩, Same.trans s25 (Same.trans s9 (Same.trans s3' (Same.trans s5 s6)))⟩
        clear y5 y11 y12 y13
        rintro σ H23 ⟨⟨y5, y11, y12, y13, rfl⟩, s23⟩
        replace g := g.same s23
        replace hvt := Tr.sm s23 hvt
        clear s23 pl
        walk_at "x"
        refine reply_call (hp.args g.ha g.hx hvt hwE) fun q p W0 H5 s5 hq1 alt => ?_
        refine ⟨q, rfl, _, hq1, _, atI_nat (j := 0) rfl, ?_⟩
        have g5 := g.same s5
        rcases alt with ⟨hin, rfl⟩ | ⟨hnin, rfl⟩
        · refine rEqS (by decide +kernel) (by decide +kernel) ⟨_, rfl, ?_⟩
          rw [decide_eq_true rfl]
          refine iteT ⟨by decide, fun p7 hp7 => ?_⟩
          have s7 := Same.new (o := HO.tup [x]) hp7
          have hkn := hp.kn
          have hxl := g.hx.len
          refine catA ((Tx.of s7).sqt g5.ha) (SqT.of upd_same) (by rw [List.length_singleton]; omega) fun pK H8 s8 hK => ?_
          have s78 := Same.trans s7 s8
          have g8 := g5.same s78
          have hsz2 : sizes (kts ++ [t] ++ [wt]) ≤ 154 := by
            have := sizes_mul (z := 22) (ts := kts ++ [t] ++ [wt]) fun u hu => by
              rcases List.mem_append.mp hu with h | h
              · rcases List.mem_append.mp h with h | h
                · exact (hp.sz.2 u h).1
                · rw [List.mem_singleton.mp h]; exact hp.tz.1
              · rw [List.mem_singleton.mp h]; exact hwz.1
            rw [List.length_append, List.length_append, List.length_singleton, List.length_singleton] at this
            omega
          refine reply_call (known := kts ++ [t]) (wanted := wt) ⟨hK, Trs.snoc g8.hx g8.hl, Tr.sm (Same.trans s5 s78) hvt, (fun u hu => ?_), ⟨hp.okE wt hwE, by omega⟩, by rw [List.length_append, List.length_singleton]; omega, by omega⟩ fun q2 p2 W2 H9 s9 hq2 alt2 => ?_
          · have := evE_small hp.sz.2 hp.tz u (subsT_self hu)
            exact ⟨⟨by omega, by omega⟩, by omega⟩
          refine ⟨q2, rfl, _, hq2, _, atI_nat (j := 0) rfl, ?_⟩
          rcases alt2 with ⟨_, rfl⟩ | ⟨hnin2, rfl⟩
          · refine rNeS (by decide +kernel) (by decide +kernel) ⟨_, rfl, ?_⟩
            rw [decide_eq_true rfl]
            exact iteF ⟨⟨_, _, _, _, _, _, _, _, _, _, _, rfl⟩, g8.lw.same s9⟩
          · exact absurd (hin.sub fun u hu => List.mem_append_left _ hu) hnin2
        · refine rEqS (by decide +kernel) (by decide +kernel) ⟨_, rfl, ?_⟩
          rw [show decide (Str.ofString "lacks" = Str.ofString "has") = false by decide +kernel]
          exact iteF ⟨⟨_, _, _, _, _, _, _, _, _, _, _, rfl⟩, g5.lw⟩
    · rintro σ H2 ⟨⟨y2, y3, y5, y6, y7, y8, y9, y10, y11, y12, y13, rfl⟩, lw⟩
      have hD0 := lw.d
      refine cut_of (fun σ H' => Lm a dr nm σ ∧ Dr H' dr cs) ?_ ?_
      · walk_at "x"
        refine tLc_made (C := fun J H3 zs => J = Itr 0 3 ∧ H2 = H3) (fun R' hR' => ?_) ?_
        · simp only [iRng1]
          walk_at "x"
          exact ⟨by decide, by decide, hR' _ _ [] ⟨rfl, rfl⟩⟩
        rintro J H3 zs ⟨rfl, rfl⟩
        refine tLc_of (walk_range (lo := 0) (n := 3)) (H1 := H2) (fun R' hR' => hR') (fun D i H' => Kp dr cs H2 H' ∧ H2 D = none ∧ ∃ bs : List Bool, H' D = some (.lst (bs.map V.bl)) ∧ bs.length ≤ i ∧ bs.all id = true) (fun D hDn => ⟨(Kp.refl hD0).new hDn, hDn, [], upd_same, Nat.le_refl _, rfl⟩) (fun _ _ _ _ _ => trivial) ?_ ?_
        · rintro D i y H4 H5 hi ⟨k4, hDn, bs, hDl, hbl, hba⟩ ⟨rfl, rfl⟩
          have nD : D ≠ dr := Dr.new hD0 hDn
          walk_at "x"
          simp only [tYes, if_true]
          refine ⟨dr, cs, rfl, k4.2, fun v H6 k6 hodd => ⟨by decide, fun p hp => ?_⟩⟩
          have sp := Same.new (o := HO.tup [V.str (Str.ofString "name"), V.str (Str.ofString "s")]) hp
          refine ⟨_, v, .ref p, rfl, .odd (hodd.same sp), fun _ _ => hodd.same sp, fun H7 s7 => ?_⟩
          have k26 := k4.trans k6
          have k27 := k26.trans (Kp.same k26.2 (Same.trans sp s7))
          have hD7 := s7 _ _ (sp _ _ (k6.1 _ _ nD hDl))
          refine ⟨_, hD7, by rw [List.length_map]; omega, Kp.mut k27 hD0 hDn, hDn, bs ++ [true], by rw [upd_same, List.map_append]; rfl, by simp; omega, by rw [List.all_append, hba]; rfl⟩
        · rintro D H4 ⟨k4, hDn, bs, hDl, hbl, hba⟩
          refine ⟨D, bs, rfl, SqL.of hDl, ?_⟩
          rw [hba]
          exact ⟨_, rfl, iteF ⟨⟨_, _, _, _, _, _, _, _, _, _, _, rfl⟩, k4.2⟩⟩
      clear y2 y3 y5 y6 y7 y8 y9 y10 y11 y12 y13 lw hD0
      rintro σ H3 ⟨⟨y2, y3, y5, y6, y7, y8, y9, y10, y11, y12, y13, rfl⟩, hD3⟩
      walk_at "x"
      refine ⟨by decide, fun p1 hp1 => ?_⟩
      have n1 : p1 ≠ dr := Dr.new hD3 hp1
      have k1 := (Kp.refl hD3).new (o := HO.tup []) hp1
      refine ⟨dr, cs, rfl, k1.2, fun v2 H5 d k5 hd ok hg => ?_⟩
      refine ⟨_, .ref p1, v2, rfl, .wanted (SqT.of (k5.1 _ _ n1 upd_same)) hd ok hg, fun h0 => absurd rfl h0, fun H6 s6 => ?_⟩
      have hD6 := (Kp.same k5.2 s6).2
      refine ⟨_, rfl, iteT ⟨by decide, fun p2 hp2 => ?_⟩⟩
      have n2 : p2 ≠ dr := Dr.new hD6 hp2
      have k2 := (Kp.refl hD6).new (o := HO.tup []) hp2
      refine ⟨dr, cs, rfl, k2.2, fun v3 H7 d3 k7 hd3 ok3 hg3 => ?_⟩
      refine ⟨_, .ref p2, v3, rfl, .wanted (SqT.of (k7.1 _ _ n2 upd_same)) hd3 ok3 hg3, fun _ h1 => absurd rfl h1, fun H8 s8 => ?_⟩
      exact hq H8
end
end WW

set_option maxHeartbeats 0
namespace WW
open PySem PySem.Spec PyProof.Rows L2
abbrev Rw : PySem.W.OpenRow := PySem.W.OpenLaw.row PySem.Challenge.rw_wirewary_k36_whole_what_a_letter_gives
abbrev hk : PySem.W.Hook := hookS 5 fa fn
def ob (s : PySem.W.SharedT) : AlS := obsS 5 fa fn (HandSHeadRun.getT s)
theorem ob_eq (s : PySem.W.SharedT) : ob s = hk.obs s.abs := obsS_eq (HandSHeadRun.getT_eq s)
def loose : List PySem.Str := (["Fault", "Malformed", "LETTERS", "DIGITS", "WORDS", "MOST_NAME", "MOST_NODES", "MOST_DEPTH", "MOST_TALKS", "MOST_OWN", "TWO_PARTS", "ONE_PART", "is_whole", "is_name", "is_atom", "parts_of", "is_term", "subterms_of", "shown", "in_order", "MADE", "key_for", "check_known", "Kept", "taken_of", "made_of", "next_round", "taken_in", "had_of", "lines_to"] : List PySem.Str) ++ (["derived", "barred", "reply", "check_terms", "had", "gained", "needed", "_law_draw", "_law_take", "_law_parts", "_law_within", "_law_text", "_law_line", "_law_opens", "_law_next", "_law_rounds", "_law_all", "_law_term", "_law_knowns", "_law_odd_terms", "_law_odd_term", "_law_falls", "_law_chain"] : List PySem.Str)
theorem run (w : World) : HandSHeadRun.RunEq Rw (PySem.W.view Rw.prog [58]) hk ob 6000 loose w := by
  intro os
  kernel_rfl
end WW
open PySem PySem.W PySem.Calls PyProof.Rows
theorem PySem.Challenge.cw_wirewary_k36_whole_what_a_letter_gives_holds : PySem.Challenge.rw_wirewary_k36_whole_what_a_letter_gives.Holds := by
  w_on; o_law
  refine HandSHeadRun.head_any (r := OpenLaw.row PySem.Challenge.rw_wirewary_k36_whole_what_a_letter_gives) (q := view (OpenLaw.row PySem.Challenge.rw_wirewary_k36_whole_what_a_letter_gives).prog [58]) (H := WW.hk) (ob := WW.ob) (M := 6000) (loose := WW.loose) (d := HandSHeadRun.topDef (OpenLaw.row PySem.Challenge.rw_wirewary_k36_whole_what_a_letter_gives).prog 58) (kwd := []) WW.ob_eq
    (by kernel_rfl) (fun s => by kernel_rfl) WW.run (by kernel_rfl) (by kernel_rfl) (by kernel_rfl) (by rfl) (by first | assumption | decide +kernel) (by decide +kernel) ⟨rfl, rfl, rfl, rfl, rfl, by decide +kernel⟩ ?hw ?hc
  case hw => w_witness2
  case hc =>
    refine WW.law_walk (l := PySem.Challenge.rw_wirewary_k36_whole_what_a_letter_gives) (n := 63) (x := "script") rfl (by decide) (by kernel_rfl) ?F
    intro w mg fa h Y G hmg0
    obtain ⟨K, KX, c, dgx⟩ := Y
    obtain ⟨dg, ex⟩ := Bool.and_eq_true_iff.mp dgx
    have hmg : mg ("law" : PySem.Str) = some (.ref fa) := by
      have e : (HandSHeadRun.topDef (OpenLaw.row PySem.Challenge.rw_wirewary_k36_whole_what_a_letter_gives).prog 58).name = ("law" : PySem.Str) := by kernel_rfl
      rw [← e]
      exact hmg0
    have W : WW.Wd WW.fa WW.fn K mg := ⟨c, ⟨h, KX, G⟩, dg, ex⟩
    obtain ⟨fd, F, hL⟩ := WW.o_law (P := PySem.Challenge.rw_wirewary_k36_whole_what_a_letter_gives.prog) (w := w) W
    have e := hmg.symm.trans (W.glo 73 (x := "law"))
    cases e
    have b := L2.FunD.bindsA (ps := ["script"]) F fun _ _ _ _ _ _ us hl => match us, hl with | [_], _ => rfl
    exact ⟨K, fd, WW.spLaw K, KX, fun s v => b s [v] rfl, fun H a ns hl _ hS => ⟨a, ns, rfl, hl, hS, fun _ => rfl⟩, fun base _ _ => hL base⟩
