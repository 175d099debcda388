import PyProof.Rows.All
import Wide.All
import OpenK.AllK
import Wide.FinOn
import KE.KStateDown
import Lean
import HandS.ForMost
import HandS.Exc
import HandS.ExcOwn
import HandS.TryOnly
import HandS.WordsExc
import HandS.IsInst
import HandS.Wide
import HandS.Steps
import HandS.Style
import HandS.Flow
import HandS.Codes
import HandS.Deep
import HandS.Evl
import HandS.Conv
import HandS.Defaults
import HandS.Head0
import HandS.Head1
import HandS.Head2
import HandS.HeadEnd
import HandS.HeadHook1
import HandS.HeadHook2
import HandS.HeadHook4
import HandS.ExcCtx
import HandS.ExcValue
import HandS.HotCalls
import HandS.RaiseFrom
import HandS.SuiteRaise
import HandS.RaiseMore
import KE.KExcMore
import KE.KExcIs
import HandS.Walk
import KE.KIntText
import PyProof.ReprRoads
import PyProof.Rows.StrOr
import PySem.Challenge.RW_wirewary_k63_whole_texts_of_diaries
import HandS.Zip
import KE.KDictZip
import HandS.OwnEq
set_option Elab.async false
set_option linter.all false
set_option maxRecDepth 100000
set_option maxHeartbeats 4000000
namespace WW
open PySem PySem.Spec PyProof.Rows L2

def digB (K : PySem.W.Frag) : Bool := match K.lookup cStatics with
  | some ⟨_, _, .dict es _, _⟩ => es.all (fun e => match e.key with | .str _ _ => true | _ => false) && (nsFind es "sys.int_max_str_digits").isNone
  | _ => false
/-- isinstance of the class Reply, and of a Reply -/
def ownB (K : PySem.W.Frag) (C : Addr) : Bool := ["NoneType", "int", "str", "tuple", "list", "bool"].all (fun x => decide (PySem.W.kitOne K (.type x) (.ref C) = some false)) && (["int", "str", "tuple", "list", "bool"].all fun x => decide (PySem.W.kitOne K (.ref C) (.type x) = some false)) &&
  (He.eqO (PySem.W.findIn K (.ref C) "__class__") (some (some (.builtin "object.__class__"))) && (He.eqO (PySem.W.specialIn K (.builtin "object.__class__") "__get__") (some (some (.builtin "getset_descriptor.__get__"))) && (decide (PySem.W.takesIn K (.builtin "object.__class__") = some true) && decide (PySem.W.mroIn K C (.type "object") = some true))))
def strB (K : PySem.W.Frag) (C : Addr) : Bool := He.eqO (PySem.W.findIn K (.ref C) "__str__") (some (some (.builtin "BaseException.__str__"))) && decide (PySem.W.subIn K (.ref C) (.type "BaseException") = some true)
/-- an empty tuple of the written part -/
def nilB (K : PySem.W.Frag) (a : Addr) : Bool := match K.lookup a with
  | some ⟨.type c, _, .seq its _, _⟩ => decide (c = "tuple") && decide (its.toList = [])
  | _ => false
theorem nilB_ok {K : PySem.W.Frag} {a : Addr} (h : nilB K a = true) (H : Hp) : SqT K H a [] := by
  unfold nilB at h
  split at h
  · rename_i c dd its n sl e
    obtain ⟨h1, h2⟩ := Bool.and_eq_true_iff.mp h
    have h3 := of_decide_eq_true h2
    refine .inr ⟨_, its, n, e, congrArg Value.type (of_decide_eq_true h1), rfl, ?_, by rw [h3]; exact .nil⟩
    rw [← Array.length_toList, h3]
    exact Nat.zero_le _
  · cases h
def dflR : PySem.W.Frag → Addr := He.dflAt ("Reply", some "__init__") 1
def exB (K : PySem.W.Frag) : Bool := He.tupB K "MARKS" (["> ", "= ", "# "].map fun x => He.Dv.str (PySem.Str.ofString x)) && (strB K (He.ga K "Malformed") && (ownB K (He.ga K "Reply") && nilB K (dflR K)))
/-- what the head tells: its facts, over a base -/
structure Wd (fa : List He.Fa) (fn : List He.DefD) (K : PySem.W.Frag) (mg : Str → Option Value) : Prop where
  c : He.SaysD fa fn K
  h : ∃ h : Heap, K.In h ∧ h.Ns mainGlobals mg
  dg : digB K = true
  ex : exB K = true
section
variable {fa : List He.Fa} {fn : List He.DefD} {K : PySem.W.Frag} {mg : Str → Option Value}
theorem Wd.glo (W : Wd fa fn K mg) (i : Nat) {x : Str} (e : fa[i]? = some (.glo x) := by rfl) : mg x = some (.ref (He.ga K x)) := by
  obtain ⟨h, X, G⟩ := W.h
  exact He.glo_ok X G (W.c.fact i e)
theorem Wd.free (W : Wd fa fn K mg) (i : Nat) {x : Str} (e : fa[i]? = some (.free x) := by rfl) : mg x = none := by
  obtain ⟨h, X, G⟩ := W.h
  exact He.free_ok X G (W.c.fact i e)
theorem Wd.intV (W : Wd fa fn K mg) (i : Nat) {x : Str} {n : Int} (e : fa[i]? = some (.int x n) := by rfl) : ∃ u, mg x = some u ∧ RelV (.int n) u := by
  obtain ⟨h, X, G⟩ := W.h
  obtain ⟨t, q⟩ := He.int_ok X G (W.c.fact i e)
  exact ⟨_, q, t, rfl⟩
theorem Wd.strV (W : Wd fa fn K mg) (i : Nat) {x z : Str} (e : fa[i]? = some (.str x z) := by rfl) : ∃ u, mg x = some u ∧ RelV (.str z) u := by
  obtain ⟨h, X, G⟩ := W.h
  obtain ⟨t, q⟩ := He.str_ok X G (W.c.fact i e)
  exact ⟨_, q, t, rfl⟩
theorem Wd.refV (W : Wd fa fn K mg) (i : Nat) {x : Str} (e : fa[i]? = some (.glo x) := by rfl) : ∃ u, mg x = some u ∧ RelV (.ref (He.ga K x)) u := ⟨_, W.glo i e, rfl⟩
theorem Wd.cls (W : Wd fa fn K mg) (i : Nat) {x : Str} (e : fa[i]? = some (.cls x) := by rfl) : Cls K (He.ga K x) := He.cls_ok (W.c.fact i e)
theorem Wd.noat (W : Wd fa fn K mg) (i : Nat) {x f : Str} (e : fa[i]? = some (.noat x f) := by rfl) : NoAttr K (He.ga K x) f := He.noat_ok (W.c.fact i e)
theorem Wd.meth (W : Wd fa fn K mg) (i : Nat) {x m : Str} (e : fa[i]? = some (.meth x m) := by rfl) : Meth K (He.ga K x) m (He.ma K (He.ga K x) m) := He.meth_ok (W.c.fact i e)
theorem Wd.mkr (W : Wd fa fn K mg) (i : Nat) {x : Str} (e : fa[i]? = some (.mkr x) := by rfl) : Mk K (He.ga K x) (He.ma K (He.ga K x) "__init__") := He.mkr_ok (W.c.fact i e)
theorem Wd.exm (W : Wd fa fn K mg) (i : Nat) {x y : Str} {b : Bool} (e : fa[i]? = some (.exm x y b) := by rfl) : PySem.W.exmOne K (.ref (He.ga K x)) (.ref (He.ga K y)) = some b := He.exm_ok (W.c.fact i e)
end

/-- a def of the text by names, without defaults -/
def dGlo (x : Str) (st : Stmt) : He.DefD := ⟨(x, none), x, x, defArgs st, defBody st, defScope st, [], []⟩
def dMeth (c m : Str) (st : Stmt) : He.DefD := ⟨(c, some m), m, c ++ "." ++ m, defArgs st, defBody st, defScope st, [], []⟩

end WW

set_option maxHeartbeats 4000000
/-! ### own exceptions that keep their text: d is the place of the tuple of their arguments -/
namespace WW
open PySem PySem.Spec PyProof.Rows L2
def ArgP (t : Addr) (o : Obj) : Prop := ∃ fs : Array Value, o.data = .fields fs ∧ fs[0]? = some (.ref t)
theorem ArgP.keeps {t : Addr} {i : Nat} (hi : i ≠ 0) {o : Obj} {v : Value} (x : ArgP t o) : ArgP t (o.mapFields (·.setIfInBounds i v)) := by
  obtain ⟨fs, e, g⟩ := x
  refine ⟨fs.setIfInBounds i v, Obj.data_mapFields e _, ?_⟩
  rw [Array.getElem?_setIfInBounds_ne hi]
  exact g
/-- class, no dict, no context (where n), the tuple of the arguments -/
structure Zt (n : Bool) (cls : Value) (d : Option Addr) (o : Obj) : Prop where
  cl : o.cls = cls
  nd : o.dict = none
  cx : n = true → PXN.CtxN o
  ar : ∀ t, d = some t → ArgP t o
theorem Zt.steady {n : Bool} {cls : Value} {d : Option Addr} : PXN.Steady1 (Zt n cls d) := fun o v x =>
  ⟨PXN.steady_cls o v x.cl, PXN.steady_dict o v x.nd, fun e => PXN.steady_ctx o v (x.cx e), fun t e => (x.ar t e).keeps (by decide)⟩
theorem Zt.less {m n : Bool} (h : n = true → m = true) {cls : Value} {d : Option Addr} (o : Obj) (x : Zt m cls d o) : Zt n cls d o := ⟨x.cl, x.nd, fun e => x.cx (h e), x.ar⟩
theorem sky_imp {B h : Heap} {l : List Env} {a L : Addr} {Z Z' : Obj → Prop} (z : ∀ o, Z o → Z' o) (x : Sky B l a Z L h) : Sky B l a Z' L h := by
  rcases x with ⟨x1, x2, x3, o, fs, x4, x5, x6⟩ | x | ⟨x1, x2, x3, x4⟩
  · exact .inl ⟨x1, x2, x3, o, fs, x4, z o x5, x6⟩
  · exact .inr (.inl (L2H.flyingZ_imp z x))
  · exact .inr (.inr ⟨x1, x2, x3, L2H.tracedZ_imp z x4⟩)
/-- a raised object above X: t is the state without it -/
structure Air (n : Bool) (X : Cx) (s' : Shared) (a : Addr) (B : Heap) (t : Shared) (pins : List (Addr × Obj)) (σ : L2.St) (H : Hp) (cls : Value) (d : Option Addr) : Prop where
  inv : Inv X pins σ H t
  grd : ∀ b o, t.heap.get? b = some o → b ∉ frs X.stack → B.get? b = some o
  ups : t.heap.UpToSlots s'.heap
  sky : Sky B X.stack a (Zt n cls d) X.env.locals s'.heap
  off : H a = none
  os : s'.os = t.os
  gens : AllBare s'.gens
def XT (n : Bool) (X : Cx) (W : WX) (u : Value) (s' : Shared) : Prop := ∃ a B t pins σ H cls d, u = .ref a ∧ Air n X s' a B t pins σ H cls d ∧ W cls d σ H
def Tk (n : Bool) (X : Cx) (W : WX) : Prop := ∀ u s', XT n X W u s' → X.xe u s'
theorem XT.less {m n : Bool} (h : n = true → m = true) {X : Cx} {W : WX} {u : Value} {s' : Shared} (x : XT m X W u s') : XT n X W u s' := by
  obtain ⟨a, B, t, pins, σ, H, cls, d, e, r, w⟩ := x
  exact ⟨a, B, t, pins, σ, H, cls, d, e, ⟨r.inv, r.grd, r.ups, sky_imp (Zt.less h) r.sky, r.off, r.os, r.gens⟩, w⟩
theorem Tk.imp {n : Bool} {X : Cx} {W W' : WX} (tk : Tk n X W) (h : ∀ c d σ H, W' c d σ H → W c d σ H) : Tk n X W' := fun u s' ⟨a, B, t, pins, σ, H, cls, d, e, r, w⟩ => tk u s' ⟨a, B, t, pins, σ, H, cls, d, e, r, h _ _ _ _ w⟩
/-- what a call leaves that let such an object out -/
def CT (n : Bool) (P : Program) (w : World) : CXT := fun outer H s E u s' =>
  ∃ a B H' cls d, u = .ref a ∧ (HandSPX.FlyingZ B outer a (Zt n cls d) s'.heap ∧ HOk P w H' B ∧ UB (frs outer) H H' s.heap B s'.heap) ∧ (H' a = none ∧ s'.os = s.os ∧ AllBare s'.gens) ∧ E cls d H'
theorem CT.less {m n : Bool} (h : n = true → m = true) {P : Program} {w : World} {outer : List Env} {H : Hp} {s : Shared} {E : XK} {u : Value} {s' : Shared} (x : CT m P w outer H s E u s') : CT n P w outer H s E u s' := by
  obtain ⟨a, B, H', cls, d, e, ⟨x1, x2⟩, x3, x4⟩ := x
  exact ⟨a, B, H', cls, d, e, ⟨L2H.flyingZ_imp (Zt.less h) x1, x2⟩, x3, x4⟩
section
variable {n : Bool} {X : Cx} {pins : List (Addr × Obj)} {σ : L2.St} {H : Hp} {s s' t : Shared} {W : WX} {E : XK}
/-- of a call: in the air here -/
theorem XT.call (I : Inv X pins σ H s) (hW : ∀ cls d H', E cls d H' → W cls d σ H') {u : Value} (c : CT n X.prog X.w X.stack H s E u s') : XT n X W u s' := by
  obtain ⟨a, B, H', cls, d, rfl, ⟨fl, hok, ub⟩, ⟨na, os, ag⟩, hE⟩ := c
  obtain ⟨G, gin, gout⟩ := restrict s'.heap fun b => (B.get? b).isSome || decide (b ∈ frs X.stack)
  have below : B.StaysIn s'.heap := fl.1
  have ground : ∀ b o, B.get? b = some o → G.get? b = some o := by
    intro b o e
    have := gin b (by rw [e]; rfl)
    rw [this]
    exact below b o e
  have frame : ∀ b, b ∈ frs X.stack → G.get? b = s'.heap.get? b := by
    intro b hb
    refine gin b ?_
    rw [decide_eq_true hb, Bool.or_true]
  have back : ∀ b o, G.get? b = some o → s'.heap.get? b = some o ∧ (b ∉ frs X.stack → B.get? b = some o) := by
    intro b o e
    by_cases hb : b ∈ frs X.stack
    · exact ⟨(frame b hb).symm.trans e, fun z => absurd hb z⟩
    · cases q : B.get? b with
      | none =>
        have := gout b (by rw [q, decide_eq_false hb]; rfl)
        rw [this] at e
        exact nomatch e
      | some o' =>
        have := ground b o' q
        rw [this] at e
        cases e
        exact ⟨below b _ q, fun _ => rfl⟩
  have J : Inv X pins σ H' { s with heap := G, gens := s'.gens, drawn := s'.drawn, toks := s'.toks } := by
    refine I.call (ch := []) { keep := ?_, slot := ?_, free := ?_, there := ?_, tups := ub.tups, frzs := ub.frzs, tbls := ub.tbls } (hok.kept ground) ag (fun _ z => nomatch z)
    · intro b o e e0 hb _
      exact ground b o (ub.keep b o e e0 hb)
    · intro b o e _ hb _
      obtain ⟨sl, q⟩ := ub.slot b o e hb
      exact ⟨sl, (frame b hb).trans q⟩
    · intro b o e e0 _
      exact ub.free b o e e0
    · intro b o e _
      by_cases hb : b ∈ frs X.stack
      · obtain ⟨sl, q⟩ := ub.slot b o e hb
        exact ⟨_, (frame b hb).trans q⟩
      · obtain ⟨o', q⟩ := ub.there b o e hb
        exact ⟨o', ground b o' q⟩
  exact ⟨a, B, _, pins, σ, H', cls, d, rfl, ⟨J, fun b o e hb => (back b o e).2 hb, Heap.UpToSlots.of_keeps fun b o e => (back b o e).1, .inr (.inl fl), na, os, ag⟩, hW _ _ _ hE⟩
/-- a new one -/
theorem XT.fresh {a : Addr} {oe : Obj} {fs : Array Value} {cls : Value} {d : Option Addr} (I : Inv X pins σ H t) (k : ∀ b o, t.heap.get? b = some o → s'.heap.get? b = some o) (hne : t.heap.get? a = none) (he : s'.heap.get? a = some oe)
    (hz : Zt n cls d oe) (hd : oe.data = .fields fs) (h1 : fs[1]? = some .none) (na : H a = none) (os : s'.os = t.os) (ag : AllBare s'.gens) (w : W cls d σ H) : XT n X W (.ref a) s' := by
  have off : (PySem.W.hideAll t.heap (frs X.stack)).get? a = none := by
    cases q : (PySem.W.hideAll t.heap (frs X.stack)).get? a with
    | none => rfl
    | some o =>
      have := PySem.W.of_hideAll _ q
      rw [hne] at this
      exact nomatch this
  have ff : s'.heap.FunFrames (PySem.W.hideAll t.heap (frs X.stack)) X.stack :=
    Heap.FunFrames.of_keeps (fun b o e _ => ⟨o, k b o e, rfl⟩) (funFrames_none I.stack fun b hb => PySem.W.hideAll_none _ hb)
  refine ⟨a, _, t, pins, σ, H, cls, d, rfl, ⟨I, fun b o e hb => PySem.W.hideAll_get _ e hb, Heap.UpToSlots.of_keeps k, .inl ⟨?_, off, ff, oe, fs, he, hz, hd, h1⟩, na, os, ag⟩, w⟩
  intro b o e
  exact k b o (PySem.W.of_hideAll _ e)
/-- it leaves the def -/
theorem XT.goes (hs : X.stack = X.env :: X.outer) (hf : X.env.frame = some X.env.locals) (hex : X.ex = []) {E₁ : Value → Shared → Prop} (hW : ∀ cls d σ H, W cls d σ H → E cls d H) {u : Value} (x : XT n X W u s') :
    wpAny (model X.prog X.w) X.A (leaving X.env u) (fun _ s2 => CT n X.prog X.w X.outer X.H_0 X.s_0 E u s2) E₁ s' := by
  obtain ⟨a, B, t, pins, σ, H, cls, d, rfl, r, w⟩ := x
  have I := r.inv
  have noex : ∀ b, b ∉ X.ex := by rw [hex]; exact fun b z => nomatch z
  have old : ∀ b o, X.s_0.heap.get? b = some o → b ∉ X.fs → b ∉ frs X.stack := by
    intro b o e hb hm
    rcases List.mem_cons.mp (I.stkSub b hm) with z | z
    · subst z
      exact absurd (Nat.lt_of_lt_of_le (Heap.lt_size e) I.ok.above) (Nat.lt_irrefl _)
    · exact hb z
  have done : ∀ h', HandSPX.FlyingZ B X.outer a (Zt n cls d) h' → s'.heap.UpToSlots h' → CT n X.prog X.w X.outer X.H_0 X.s_0 E (.ref a) { s' with heap := h' } := by
    intro h' fl up
    refine ⟨a, B, H, cls, d, rfl, ⟨fl, I.inGround r.grd, { keep := ?_, slot := ?_, free := ?_, there := ?_, tups := I.base.tups, frzs := I.base.frzs, tbls := I.base.tbls }⟩, ⟨r.off, r.os.trans I.os, r.gens⟩, hW _ _ _ _ w⟩
    · intro b o e e0 hb
      exact r.grd b o (I.base.keep b o e e0 hb (noex b)) (old b o e hb)
    · intro b o e hb
      obtain ⟨_, o', e', notF⟩ := I.ok.funs.mem hb
      obtain rfl : o = o' := Option.some.inj (e.symm.trans e')
      obtain ⟨l1, q1⟩ := I.base.slot b o e (I.ok.frf b hb) hb (noex b)
      obtain ⟨l2, q2⟩ := r.ups b _ q1 notF
      obtain ⟨l3, q3⟩ := up b _ q2 notF
      exact ⟨l3, q3⟩
    · intro b o e e0
      exact I.base.free b o e e0 (noex b)
    · intro b o e hb
      obtain ⟨o', q⟩ := I.base.there b o e (noex b)
      exact ⟨o', r.grd b o' q (old b o e hb)⟩
  have hfr : X.A.frames = some (X.env :: X.outer) := I.ok.frames.trans (congrArg some hs)
  have sk := r.sky
  rw [hs] at sk
  rcases sk with ⟨g1, g2, g3, oe, fs, g4, g5, g6, g7⟩ | fl | hd
  · exact PXN.leaving_firstZ Zt.steady hfr g3 hf g4 g1 g2 g6 g7 g5 done
  · exact PXN.leaves_onZ Zt.steady hfr hf fl done
  · exact HandSPX.leaves_heldZ hf hd done
theorem tk_of (hs : X.stack = X.env :: X.outer) (hf : X.env.frame = some X.env.locals) (hex : X.ex = []) {E₁ : Value → Shared → Prop}
    (hx : X.xe = fun e s' => wpAny (model X.prog X.w) X.A (leaving X.env e) (fun _ s2 => CT n X.prog X.w X.outer X.H_0 X.s_0 E e s2) E₁ s') : Tk n X (fun cls d _ H => E cls d H) := by
  intro u s' x
  rw [hx]
  exact XT.goes (E := E) hs hf hex (fun _ _ _ _ h => h) x
theorem passAt {m : Bool} {X : Cx} {W : WX} (tk : Tk n X W) (σ : L2.St) (h : n = true → m = true := by decide) : PassesAt (CT m X.prog X.w) X σ (WE W σ) := fun _ _ _ _ _ I c => tk _ _ (XT.call I (fun _ _ _ h => h) (c.less h))
theorem passes_call {m : Bool} (tk : Tk n X W) (hW : ∀ cls d σ H, E cls d H → W cls d σ H) (h : n = true → m = true := by decide) : Passes (CT m X.prog X.w) X E := fun _ σ _ _ _ _ I c => tk _ _ (XT.call I (fun cls d H' q => hW cls d σ H' q) (c.less h))
theorem passL {m : Bool} {X : Cx} : Passes (CT m X.prog X.w) X E0 := fun _ _ _ _ _ _ _ x => by
  obtain ⟨_, _, _, _, _, _, _, _, z⟩ := x
  exact z.elim
end
/-! ### making and raising -/
/-- what is made: a new object with six fields, over the state t -/
def MadeT (X : Cx) (pins : List (Addr × Obj)) (σ : L2.St) (Q : XK) (u : Value) (s' : Shared) : Prop :=
  ∃ (a : Addr) (oe : Obj) (fs : Array Value) (t : Shared) (H' : Hp) (cls : Value) (d : Option Addr), u = .ref a ∧ (Inv X pins σ H' t ∧ (∀ b o, t.heap.get? b = some o → s'.heap.get? b = some o) ∧ t.heap.get? a = none ∧ H' a = none) ∧
    (s'.heap.get? a = some oe ∧ Zt true cls d oe ∧ oe.data = .fields fs ∧ fs[1]? = some .none ∧ 4 < fs.size) ∧ (s'.os = t.os ∧ AllBare s'.gens ∧ Raises X cls) ∧ Q cls d H'
def PMkT (X : Cx) (e : Expr) (t : L2.St → Hp → XK → Prop) : Prop :=
  ∀ (pins : List (Addr × Obj)) (s : Shared) (σ : L2.St) (H : Hp) (Q : XK), Inv X pins σ H s → t σ H Q → wpAny (model X.prog X.w) X.A (eval e X.env) (MadeT X pins σ Q) X.xe s
/-- the reading of a raised C(z) -/
def tX (c : Value) (z : Str) (H : Hp) (Q : XK) : Prop := ∀ t, H t = none → Q c (some t) (upd H t (.tup [.str z]))
theorem madeT_of {X : Cx} {pins : List (Addr × Obj)} {σ : L2.St} {H : Hp} {Q : XK} {s : Shared} {h' : Heap} {e : Addr} {cls : Value} {z : Str} {k : Tok} (I : Inv X pins σ H s) (hx : Heap.MadeExcOf s.heap h' e cls [.str z k]) (r : Raises X cls)
    (q : tX cls z H Q) : MadeT X pins σ Q (.ref e) { s with heap := h' } := by
  obtain ⟨t, he, ht, hh⟩ := hx.there
  have et : t ≠ e := by
    intro y
    subst y
    rw [he] at hh
    cases hh
  obtain ⟨G, gin, gout⟩ := restrict h' fun b => decide (b ≠ e)
  have sub : ∀ b o, G.get? b = some o → h'.get? b = some o := by
    intro b o y
    by_cases hb : b = e
    · have := gout b (decide_eq_false (fun z => z hb))
      rw [this] at y
      cases y
    · exact (gin b (decide_eq_true hb)).symm.trans y
  have keep : ∀ b o, s.heap.get? b = some o → G.get? b = some o := by
    intro b o y
    have hb : b ≠ e := by
      intro z
      rw [z, hx.new] at y
      cases y
    exact (gin b (decide_eq_true hb)).trans (hx.keeps b o y)
  have at_t : G.get? t = some { cls := .type "tuple", data := .seq [Value.str z k].toArray } := (gin t (decide_eq_true et)).trans hh
  have Ht := I.hok.gone ht
  have new : ObjOk X.prog X.w (upd H t (.tup [.str z])) G t (.tup [.str z]) := ⟨by show 1 ≤ sizeLine; decide, [.str z k], .cons ⟨_, rfl⟩ .nil, _, at_t, rfl, _, rfl⟩
  have J := I.laidN (t' := s.toks) keep ht Ht new
  refine ⟨e, _, _, { s with heap := G }, _, cls, some t, rfl, ⟨J, sub, gout e (decide_eq_false (fun z => z rfl)), ?_⟩, ⟨he, ⟨rfl, rfl, fun _ fs y => by cases y; rfl, fun t' y => by cases y; exact ⟨_, rfl, rfl⟩⟩, rfl, rfl, by show 4 < 6; decide⟩, ⟨rfl, I.bare, r⟩, q t Ht⟩
  rw [upd_ne (Ne.symm et)]
  exact I.hok.gone hx.new
/-- C(e), e a text -/
theorem pmkT {X : Cx} {C : Addr} {bmB : List Value} {B newId initId : String} {x : Str} {e : Expr} {ta : TE} {p pos : Pos} (F : ExcBaseFacts B newId initId bmB) (q : PySem.W.excIn X.K C bmB newId = true) (gC : X.mg x = some (.ref C))
    (kC : PySem.W.keepIn X.K (.ref C) = true) (r : Raises X (.ref C)) (hg : Gl X x) (he : PE X e ta) (hs : starEach [e] X.env = (false, eval e X.env) :: starEach [] X.env := by rfl) (hdb : (x == ("__debug__" : Str)) = false := by decide) :
    PMkT X (.Call (.Name x p) [e] [] pos) (fun σ H Q => ta σ H fun v H1 => ∃ z, v = .str z ∧ tX (.ref C) z H1 Q) := by
  intro pins s σ H Q I h
  refine wpAny_Call_Name_kw (ld_glob I hg gC (PySem.W.callWith_K (h₀ := X.base) I.ok.mod.kin kC ?_ hs (by rfl)) hdb)
  rw [hs]
  show wpAny _ _ (spliced ((false, eval e X.env) :: backTo pos (starEach [] X.env))) _ _ s
  refine Calls.spliced_cons (thn (he.run pins s σ H _ I h) fun u s1 hu => Calls.spliced_nil ?_)
  obtain ⟨v, H1, J, r1, z, rfl, q1⟩ := hu
  obtain ⟨tk, rfl⟩ := r1
  refine ⟨J.kIn, ?_⟩
  show wpAny _ _ (call (.ref C) [.str z tk]) _ _ _
  obtain ⟨_, _, _, _, _, _, _, _, _, _, _, _, _, _, _, _, _, hC, hN, hni, T⟩ := exc_obj J.kIn q
  exact wpAny_call_exc_subT F T hC hN hni (fun h' a hm => madeT_of J hm r q1) (by show 1 ≤ sizeLine; decide)
theorem ps_raise {n : Bool} {X : Cx} {W : WX} {e : Expr} {t : L2.St → Hp → XK → Prop} {pos : Pos} (hc : X.calm = true) (tk : Tk n X W) (he : PMkT X e t) : PS X (.Raise (some e) none pos) (fun _ σ H => t σ H fun cls d H' => W cls d σ H') := by
  constructor
  intro pins s σ H D I h
  show wpAny _ _ (do standAt pos; raiseStmt X.env (some (do let v ← eval e X.env; standAt pos; pure v)) none) _ _ _
  refine wpAny_bind (wpAny_standAt (raise_made (I.ok.hd hc) (wpAny_bind (thn (he pins s σ H _ I h) fun u s1 hu => wpAny_bind (wpAny_standAt (wpAny_pure ?_))))))
  obtain ⟨a, oe, fs, t, H', cls, d, rfl, ⟨J, k, hne, na⟩, ⟨ha, hz, hd, h1, _⟩, ⟨os, ag, r⟩, q⟩ := hu
  obtain ⟨r1, r2⟩ := r (model X.prog X.w) s1.heap (J.kIn.keeps k)
  exact ⟨a, oe, fs, cls, rfl, ha, hz.cl, hd, h1, r1, r2, tk _ _ (XT.fresh J k hne ha (Zt.less (fun _ => rfl) oe hz) hd h1 na os ag q)⟩
/-- raise C(e) from None in an except suite -/
theorem ps_raiseFN {X : Cx} {W : WX} {e : Expr} {t : L2.St → Hp → XK → Prop} {j : Nat} {cpos pos : Pos} (hc : L2H.HotC X) (tk : Tk false X W) (he : PMkT X e t) :
    PS X (.Raise (some e) (some (.Constant .none j cpos)) pos) (fun _ σ H => t σ H fun cls d H' => W cls d σ H') := by
  constructor
  intro pins s σ H D I h
  obtain ⟨p, ⟨hh, f1, e1, c1⟩, hp⟩ := hc
  show wpAny _ _ (do standAt pos; raiseStmt X.env (some (do let v ← eval e X.env; standAt pos; pure v)) (some (do let v ← eval (.Constant .none j cpos) X.env; standAt pos; pure v))) _ _ _
  refine wpAny_bind (wpAny_standAt (HotX.raise_made_hotN (x1 := p.1) (fun _ _ y => wpAny_bind (Constant_none (wpAny_bind (wpAny_standAt (wpAny_pure y))))) (wpAny_bind (thn (he pins s σ H _ I h) fun u s1 hu => wpAny_bind (wpAny_standAt (wpAny_pure ?_))))))
  obtain ⟨a, oe, fs, t, H', cls, d, rfl, ⟨J, k, hne, na⟩, ⟨ha, hz, hd, h1, h5⟩, ⟨os, ag, r⟩, q⟩ := hu
  have neA : ∀ b u, t.heap.get? b = some u → a ≠ b := by
    intro b u y z
    rw [← z, hne] at y
    cases y
  have k2 : ∀ b u, t.heap.get? b = some u → (HotX.noneFrom s1.heap a).get? b = some u := fun b u y => (HotX.noneFrom_other (neA b u y)).trans (k b u y)
  obtain ⟨r1, _⟩ := r (model X.prog X.w) s1.heap (J.kIn.keeps k)
  obtain ⟨_, r2⟩ := r (model X.prog X.w) (HotX.noneFrom s1.heap a) (J.kIn.keeps k2)
  have pin := (J.pin p (List.mem_append_left _ hp)).1
  obtain ⟨ha4, hd4⟩ := HotX.noneFrom_at ha hd
  have last := Obj.data_mapFields hd4 (·.setIfInBounds 2 (Value.ref p.1))
  have end1 : (((fs.setIfInBounds 3 Value.none).setIfInBounds 4 (Value.bool true)).setIfInBounds 2 (Value.ref p.1))[1]? = some Value.none := HotX.set_other (by decide) (HotX.set_other (by decide) (HotX.set_other (by decide) h1))
  refine ⟨a, oe, fs, cls, rfl, ha, hz.cl, hd, h1, h5, Ne.symm (neA _ _ pin), ⟨hh, p.2, f1, k _ _ pin, e1, c1⟩, r1, r2, tk _ _ (XT.fresh J ?_ hne (Heap.get?_update_self _ ha4 (Obj.isFreed_of_fields last)) ?_ last end1 na os ag q)⟩
  · intro b u y
    refine (Heap.get?_update_other _ _ (neA b u y)).trans (k2 b u y)
  · refine ⟨?_, ?_, (fun z => nomatch z), fun t' e' => (((hz.ar t' e').keeps (i := 3) (by decide)).keeps (i := 4) (by decide)).keeps (i := 2) (by decide)⟩
    · rw [Obj.cls_mapFields, Obj.cls_mapFields, Obj.cls_mapFields]
      exact hz.cl
    · rw [HandSPX.dict_mapFields, HandSPX.dict_mapFields, HandSPX.dict_mapFields]
      exact hz.nd
end WW

set_option maxHeartbeats 4000000
namespace WW
open PySem PySem.Spec PyProof.Rows L2
/-! ### try -/
section
variable {m n : Bool} {X : Cx} {x nm : Str} {c : Value} {i : Nat} {body suite : List Stmt} {b₀ : Stmt} {np pos pos' : Pos} {tb : WX → TS} {ts : Addr → Value → Option Addr → TS} {Wout : WX}
theorem caught (hs : X.stack = X.env :: X.outer) (hf : X.env.frame = some X.env.locals) (hc : Names X x c) (hmn : n = true → m = true) (tk : Tk n X Wout) (ok : X.Ok) {a : Addr} {B : Heap} {t s' : Shared} {pins pins' : List (Addr × Obj)} {σ : L2.St} {H : Hp}
    {cls : Value} {d : Option Addr} {xe : Value → Shared → Prop} {b : Bool} {D : Ends} {name : Option Str} {sts : List Stmt} (r : Air m (X.tr (X.pn ++ pins) xe) s' a B t pins' σ H cls d) (hb : PySem.W.exmOne X.K cls c = some b)
    (no : b = false → Wout cls d σ H)
    (yes : b = true → ∀ s3, (∀ {Q : Unit → Shared → Prop} {E : Value → Shared → Prop}, (∀ s4 oe, Inv (X.suite a ((a, oe) :: (X.pn ++ pins))) [] σ H s4 → Zt m cls d oe → (∃ fs, oe.data = .fields fs) → Q () s4) → wpAny (model X.prog X.w) (X.A.mark (some (.ref a))) (setFlight (.ref a) none) Q E s3) →
      codeAny (model X.prog X.w) (X.A.mark (some (.ref a))) (.handlers (.ref a) [.ExceptHandler none name sts pos'] X.env) (fun r s2 => match r with
        | .ok f => (match name with
          | none => SP X pins D f s2
          | some nn => wpAny (model X.prog X.w) X.A (do bindName X.env nn .none; unbindBehindTheSuite X.env nn pos') (fun _ s4 => SP X pins D f s4) X.xe s2)
        | .error y => cameBackBy (model X.prog X.w) X.A X.env X.xe y s2) s3) :
    wpAny (model X.prog X.w) X.A (noteFrame (.ref a) X.env) (fun _ s2 => wpAny (model X.prog X.w) X.A (setFlight (.ref a) none) (fun _ s3 =>
      wpAny (model X.prog X.w) X.A (handleBy (.ref a) X.env [.ExceptHandler (some (.Name x np)) name sts pos']) (SP X pins D) X.xe s3) X.xe s2) X.xe s' := by
  have hfr : X.A.frames = some (X.env :: X.outer) := ok.frames.trans (congrArg some hs)
  have J : Inv X pins σ H t := r.inv.ofTry ok
  have grd : ∀ b o, t.heap.get? b = some o → b ∉ frs X.stack → B.get? b = some o := r.grd
  have sky : Sky B (X.env :: X.outer) a (Zt m cls d) X.env.locals s'.heap := by
    have := r.sky
    rw [show (X.tr (X.pn ++ pins) xe).stack = X.env :: X.outer from hs] at this
    exact this
  refine L2N.Sky.land Zt.steady hfr hf sky fun h3 fl up => ?_
  have up1 := r.ups.trans up
  have K3 : Inv X pins σ H { s' with heap := h3 } := J.landed grd fl.1 up1 r.os r.gens
  have noFrame : ∀ {h : Heap} {o : Obj} {fs : Array Value}, h.FunFrames B (X.env :: X.outer) → h.get? a = some o → o.data = .fields fs → a ∉ frs (X.env :: X.outer) := by
    intro h o fs ff e dd hm
    obtain ⟨_, o', e', notF⟩ := ff.mem hm
    obtain rfl : o = o' := Option.some.inj (e.symm.trans e')
    exact notF _ dd
  obtain ⟨o3, f3, e3, z3, d3⟩ := fl.there
  have nfr := noFrame fl.2.2.1 e3 d3
  have nL : a ≠ X.env.locals := fun z => nfr (List.mem_filterMap.mpr ⟨X.env, List.mem_cons_self, hf.trans (congrArg some z.symm)⟩)
  have nF : a ∉ X.fs := fun hm => by
    obtain ⟨e, he, q⟩ := List.mem_filterMap.mp hm
    exact nfr (List.mem_filterMap.mpr ⟨e, List.mem_cons_of_mem _ he, q⟩)
  have S3 := K3.suite e3 d3 r.off nL nF
  have look : PySem.W.Looks (model X.prog X.w) h3 (typeOf (.ref a)) cls := fun A Q E s k q => wpAny_typeOf_ref (k _ _ e3) (by rw [z3.cl]; exact q)
  have clause : ∀ {Q : Value → Shared → Prop} {E : Value → Shared → Prop}, Q c { s' with heap := h3 } → wpAny (model X.prog X.w) (X.A.mark (some (.ref a))) (eval (.Name x np) X.env) Q E { s' with heap := h3 } := by
    intro Q E q
    obtain ⟨hg, hdbg, hm | ⟨hm, hv, hnn⟩⟩ := hc
    · exact ld_glob (X := X.suite a ((a, o3) :: (X.pn ++ pins))) S3 hg hm q hdbg
    · exact ld_blt (X := X.suite a ((a, o3) :: (X.pn ++ pins))) S3 hg hm hv q hnn hdbg
  refine wpAny_handleBy_cons (codeAny_handlers_test (clause ((PySem.W.exm_one (M := model X.prog X.w) K3.kIn look hb).here ?_))) (fun q => nomatch q)
  cases b with
  | true =>
    refine yes rfl _ fun {Q E} go => HandSPX.lands_againZ fl fun h4 fl4 up4 => ?_
    obtain ⟨o4, f4, e4, z4, d4⟩ := fl4.there
    have K4 : Inv X pins σ H { s' with heap := h4 } := J.landed grd fl4.1 (up1.trans up4) r.os r.gens
    exact go _ _ (K4.suite e4 d4 r.off nL nF) z4 ⟨_, d4⟩
  | false =>
    show wpAny _ X.A (handleBy (.ref a) X.env []) _ _ _
    refine wpAny_handleBy_nil ?_
    have fl' := fl
    obtain ⟨_, _, _, oe, fs, T, oT, tt, he, hz, hd, h1, _⟩ := fl'
    unfold PySem.passOn
    refine wpAny_bind (wpAny_field he hd h1 ?_)
    rw [if_neg (show ¬ ((Value.ref T == Value.none) = true) from by simp)]
    have on : wpAny (model X.prog X.w) X.A (setFlight (.ref a) X.env.frame) (fun _ s4 => wpAny (model X.prog X.w) X.A (throw (.ref a) : Sem Flow) (SP X pins D) X.xe s4) X.xe { s' with heap := h3 } := by
      rw [hf]
      refine HandSPX.setFlight_upZ fl fun h4 held up4 => wpAny_throw (tk _ _ (XT.less hmn (X := X) (W := Wout) (s' := { s' with heap := h4 }) ⟨a, B, t, pins, σ, H, cls, d, rfl, ⟨J, grd, up1.trans up4, .inr (.inr ?_), r.off, r.os, r.gens⟩, no rfl⟩))
      rw [hs]
      exact held
    first
    | exact wpAny_bind (wpAny_pure (wpAny_bind on))
    | exact wpAny_bind on
theorem sp_ofTry {ok : X.Ok} {pins : List (Addr × Obj)} {D : Ends} {xe : Value → Shared → Prop} {f : Flow} {s : Shared} (h : SP (X.tr (X.pn ++ pins) xe) [] D f s) : SP X pins D f s := by
  cases f with
  | next => obtain ⟨σ, H, I, q⟩ := h; exact ⟨σ, H, I.ofTry ok, q⟩
  | brk => obtain ⟨σ, H, I, q⟩ := h; exact ⟨σ, H, I.ofTry ok, q⟩
  | cont => obtain ⟨σ, H, I, q⟩ := h; exact ⟨σ, H, I.ofTry ok, q⟩
  | ret u => obtain ⟨v, σ, H, I, r, q⟩ := h; exact ⟨v, σ, H, I.ofTry ok, r, q⟩
/-- except x as n -/
theorem ps_try_as (hs : X.stack = X.env :: X.outer) (hf : X.env.frame = some X.env.locals) (hN : X.N.Nodup) (hi : X.N[i]? = some nm) (hln : X.env.kindOf nm = some .local) (hc : Names X x c) (tk : Tk n X Wout)
    (hb : ∀ (W : WX) (pn : List (Addr × Obj)) (xe : Value → Shared → Prop), Tk m (X.tr pn xe) W → PassesOwn (model X.prog X.w) X.A X.env xe → PSs (X.tr pn xe) body (tb W))
    (hsu : ∀ (a : Addr) (oe : Obj) (cls : Value) (d : Option Addr) (pn : List (Addr × Obj)), Zt m cls d oe → (∃ fs, oe.data = .fields fs) → PSs (X.suite a ((a, oe) :: pn)) (b₀ :: suite) (ts a cls d)) (hmn : n = true → m = true := by decide) :
    PS X (.Try body [.ExceptHandler (some (.Name x np)) (some nm) (b₀ :: suite) pos'] [] [] pos) (fun D σ H => tb (wAs X.K c i ts Wout D) D σ H) := by
  constructor
  intro pins s σ H D I h
  have ok := I.ok
  refine wpAny_Try_except (wpAny_mono ((hb (wAs X.K c i ts Wout D) (X.pn ++ pins) _ (fun u s' xx => ?_) PassesOwn.looking).run [] s σ H D (I.toTry _) h) (fun f s1 hsp => by
    have q := sp_ofTry (ok := ok) hsp
    cases f with
    | next => exact wpAny_execs_nil q
    | brk => exact q
    | cont => exact q
    | ret u => exact q) fun e s1 z => z)
  obtain ⟨a, B, t, pins', σ', H', cls, d, rfl, r, b, hb1, yes, no⟩ := xx
  refine caught hs hf hc hmn tk ok r hb1 no fun eb s3 go => codeAny_handlers_suite_as (go fun s4 oe S4 z4 f4 => ?_)
  refine store_ok (X := X.suite a ((a, oe) :: (X.pn ++ pins))) (v := .ref a) S4 hN hi (.inl hln) rfl (fun s5 S5 => ?_) (.inr hln)
  refine wpAny_mono ((hsu a oe cls d (X.pn ++ pins) z4 f4).run [] s5 _ H' _ S5 (yes eb a r.off)) (fun f s6 hsp => ?_) fun _ _ z => False.elim z
  have last : ∀ {σ6 : L2.St} {H6 : Hp} {Q : Shared → Prop}, Inv (X.suite a ((a, oe) :: (X.pn ++ pins))) [] σ6 H6 s6 → (∀ s7, Inv X pins (σ6.set i none) H6 s7 → Q s7) →
      wpAny (model X.prog X.w) X.A (do bindName X.env nm .none; unbindBehindTheSuite X.env nm pos') (fun _ s7 => Q s7) X.xe s6 := fun S6 hq => gone_ok (S6.unsuite ok) hN hi hln hq
  cases f with
  | next => obtain ⟨σ6, H6, S6, q⟩ := hsp; exact last S6 fun s7 J => ⟨_, _, J, q⟩
  | brk => obtain ⟨σ6, H6, S6, q⟩ := hsp; exact last S6 fun s7 J => ⟨_, _, J, q⟩
  | cont => obtain ⟨σ6, H6, S6, q⟩ := hsp; exact last S6 fun s7 J => ⟨_, _, J, q⟩
  | ret u => obtain ⟨v, σ6, H6, S6, rv, q⟩ := hsp; exact last S6 fun s7 J => ⟨_, _, _, J, rv, q⟩
/-- except x, a suite that raises nothing -/
theorem ps_try_only (hs : X.stack = X.env :: X.outer) (hf : X.env.frame = some X.env.locals) (hc : Names X x c) (tk : Tk n X Wout)
    (hb : ∀ (W : WX) (pn : List (Addr × Obj)) (xe : Value → Shared → Prop), Tk m (X.tr pn xe) W → PassesOwn (model X.prog X.w) X.A X.env xe → PSs (X.tr pn xe) body (tb W))
    (hsu : ∀ (a : Addr) (oe : Obj) (cls : Value) (d : Option Addr) (pn : List (Addr × Obj)), Zt m cls d oe → (∃ fs, oe.data = .fields fs) → PSs (X.suite a ((a, oe) :: pn)) (b₀ :: suite) (ts a cls d)) (hmn : n = true → m = true := by decide) :
    PS X (.Try body [.ExceptHandler (some (.Name x np)) none (b₀ :: suite) pos'] [] [] pos) (fun D σ H => tb (wOnly X.K c ts Wout D) D σ H) := by
  constructor
  intro pins s σ H D I h
  have ok := I.ok
  refine wpAny_Try_except (wpAny_mono ((hb (wOnly X.K c ts Wout D) (X.pn ++ pins) _ (fun u s' xx => ?_) PassesOwn.looking).run [] s σ H D (I.toTry _) h) (fun f s1 hsp => by
    have q := sp_ofTry (ok := ok) hsp
    cases f with
    | next => exact wpAny_execs_nil q
    | brk => exact q
    | cont => exact q
    | ret u => exact q) fun e s1 z => z)
  obtain ⟨a, B, t, pins', σ', H', cls, d, rfl, r, b, hb1, yes, no⟩ := xx
  refine caught hs hf hc hmn tk ok r hb1 no fun eb s3 go => codeAny_handlers_suite (go fun s4 oe S4 z4 f4 => ?_)
  refine wpAny_mono ((hsu a oe cls d (X.pn ++ pins) z4 f4).run [] s4 _ H' _ S4 (yes eb a r.off)) (fun f s6 hsp => ?_) fun _ _ z => False.elim z
  cases f with
  | next => obtain ⟨σ6, H6, S6, q⟩ := hsp; exact ⟨_, _, S6.unsuite ok, q⟩
  | brk => obtain ⟨σ6, H6, S6, q⟩ := hsp; exact ⟨_, _, S6.unsuite ok, q⟩
  | cont => obtain ⟨σ6, H6, S6, q⟩ := hsp; exact ⟨_, _, S6.unsuite ok, q⟩
  | ret u => obtain ⟨v, σ6, H6, S6, rv, q⟩ := hsp; exact ⟨_, _, _, S6.unsuite ok, rv, q⟩
/-- except x, a suite that may raise -/
theorem ps_try_onlyR (hs : X.stack = X.env :: X.outer) (hf : X.env.frame = some X.env.locals) (hc : Names X x c) (hpa : ∀ hd : Option Value, PassesOwnAt (model X.prog X.w) (X.A.mark hd) X.A X.env X.xe) (tk : Tk false X Wout)
    (hb : ∀ (W : WX) (pn : List (Addr × Obj)) (xe : Value → Shared → Prop), Tk true (X.tr pn xe) W → PassesOwn (model X.prog X.w) X.A X.env xe → PSs (X.tr pn xe) body (tb W))
    (hsu : ∀ (a : Addr) (oe : Obj) (cls : Value) (d : Option Addr) (pn : List (Addr × Obj)), Zt true cls d oe → (∃ fs, oe.data = .fields fs) → Tk false (L2H.suiteX X a ((a, oe) :: pn)) Wout → L2H.HotC (L2H.suiteX X a ((a, oe) :: pn)) → PSs (L2H.suiteX X a ((a, oe) :: pn)) (b₀ :: suite) (ts a cls d)) :
    PS X (.Try body [.ExceptHandler (some (.Name x np)) none (b₀ :: suite) pos'] [] [] pos) (fun D σ H => tb (wOnly X.K c ts Wout D) D σ H) := by
  constructor
  intro pins s σ H D I h
  have ok := I.ok
  refine wpAny_Try_except (wpAny_mono ((hb (wOnly X.K c ts Wout D) (X.pn ++ pins) _ (fun u s' xx => ?_) PassesOwn.looking).run [] s σ H D (I.toTry _) h) (fun f s1 hsp => by
    have q := sp_ofTry (ok := ok) hsp
    cases f with
    | next => exact wpAny_execs_nil q
    | brk => exact q
    | cont => exact q
    | ret u => exact q) fun e s1 z => z)
  obtain ⟨a, B, t, pins', σ', H', cls, d, rfl, r, b, hb1, yes, no⟩ := xx
  refine caught (m := true) (n := false) hs hf hc (fun z => Bool.noConfusion z) tk ok r hb1 no fun eb s3 go => codeAny_handlers_suite (go fun s4 oe S4 z4 f4 => ?_)
  have tk4 : Tk false (L2H.suiteX X a ((a, oe) :: (X.pn ++ pins))) Wout := by
    intro u2 s2 x2
    obtain ⟨a2, B2, t2, pn2, σ2, H2, cls2, d2, e2, r2, w2⟩ := x2
    exact tk u2 s2 ⟨a2, B2, t2, pins, σ2, H2, cls2, d2, e2, ⟨L2H.unsuiteX r2.inv ok, r2.grd, r2.ups, r2.sky, r2.off, r2.os, r2.gens⟩, w2⟩
  obtain ⟨fs, hfs⟩ := f4
  have hot : L2H.HotC (L2H.suiteX X a ((a, oe) :: (X.pn ++ pins))) := ⟨(a, oe), ⟨rfl, fs, hfs, z4.cx rfl fs hfs⟩, List.mem_cons_self⟩
  refine wpAny_mono ((hsu a oe cls d (X.pn ++ pins) z4 ⟨fs, hfs⟩ tk4 hot).run [] s4 _ H' _ (L2H.suiteX_of S4) (yes eb a r.off)) (fun f s6 hsp => ?_) fun y s6 z => hpa (some (.ref a)) y s6 z
  cases f with
  | next => obtain ⟨σ6, H6, S6, q⟩ := hsp; exact ⟨_, _, L2H.unsuiteX S6 ok, q⟩
  | brk => obtain ⟨σ6, H6, S6, q⟩ := hsp; exact ⟨_, _, L2H.unsuiteX S6 ok, q⟩
  | cont => obtain ⟨σ6, H6, S6, q⟩ := hsp; exact ⟨_, _, L2H.unsuiteX S6 ok, q⟩
  | ret u => obtain ⟨v, σ6, H6, S6, rv, q⟩ := hsp; exact ⟨_, _, _, L2H.unsuiteX S6 ok, rv, q⟩
end
/-! ### str(fault) -/
/-- what the class must have -/
structure StrC (K : PySem.W.Frag) (C : Addr) : Prop where
  st : PySem.W.findIn K (.ref C) "__str__" = some (some (.builtin "BaseException.__str__"))
  be : PySem.W.subIn K (.ref C) (.type "BaseException") = some true
/-- str(n) in the suite: n is the caught one, its class cls, its arguments at d -/
def tStrX (i : Nat) (K : PySem.W.Frag) (a : Addr) (cls : Value) (d : Option Addr) : TE := fun σ H Q => σ[i]? = some (some (.ref a)) ∧ ∃ C t z, cls = .ref C ∧ StrC K C ∧ d = some t ∧ H t = some (.tup [.str z]) ∧ Q (.str z) H
theorem pe_strX {n : Bool} {X : Cx} {a : Addr} {oe : Obj} {cls : Value} {d : Option Addr} {pn : List (Addr × Obj)} {i : Nat} {nm : Str} {p p2 pos : Pos} (hz : Zt n cls d oe) (hi : X.N[i]? = some nm) (hv : Vis X.env.scope nm) (hg : Gl X "str") (hm : X.mg "str" = none)
    (hu : X.A.units + 2 < cLine) (hnd : (nm == ("__debug__" : Str)) = false := by decide) (hnc : (nm == ("__classdict__" : Str)) = false := by decide) (hs : starEach [.Name nm p2] (X.suite a ((a, oe) :: pn)).env = [(false, eval (.Name nm p2) (X.suite a ((a, oe) :: pn)).env)] := by rfl) :
    PE (X.suite a ((a, oe) :: pn)) (.Call (.Name "str" p) [.Name nm p2] [] pos) (tStrX i X.K a cls d) := by
  constructor
  intro pins s σ H Q I h
  obtain ⟨hσ, C, t, z, rfl, T, rfl, ht, q⟩ := h
  have ha : PA (X.suite a ((a, oe) :: pn)) [.Name nm p2] (tCons (tVar i) tNil) := pa_cons (pe_var hi hv (hd := hnd) (hcd := hnc)) pa_nil
  have hr := ha.run pos pins s σ H (fun vs H1 => vs = [.ref a] ∧ H1 = H) I ⟨_, hσ, rfl, rfl⟩
  refine Call_ (ld_blt (u := .type "str") I hg hm (by decide +kernel) ?_)
  refine PyProof.Rows.callWith_type1 (thn hr fun us s1 hh => ?_) hs rfl
  obtain ⟨vs, H1, I1, r1, rfl, rfl⟩ := hh
  obtain ⟨u, rfl, ru⟩ := vals1 r1
  obtain rfl : u = Value.ref a := ru
  obtain ⟨e1, _⟩ := I1.pin (a, oe) (List.mem_append_left _ List.mem_cons_self)
  obtain ⟨fs, hd, h0⟩ := hz.ar t rfl
  have X0 : ExcC X.K C a t s1.heap := ⟨I1.kIn, oe, fs, e1, hz.cl, hd, h0⟩
  obtain ⟨its, rv, it, _⟩ := I1.tuple (SqT.of ht)
  cases rv with
  | cons r0 r9 =>
    cases r9
    obtain ⟨tz, rfl⟩ := r0
    refine PySem.P.str_of_C_one (tk := tz) (by exact hu) X0 ?_ T.st T.be ⟨.str z, _, I1, ⟨_, rfl⟩, q⟩
    obtain ⟨o, e, c, k, dd⟩ := it
    exact ⟨o, k, e, c, dd⟩
end WW

set_option maxHeartbeats 4000000
namespace WW
open PySem PySem.Spec PyProof.Rows L2
section
variable {CX : CXT} {P : Program} {w : World} {K : PySem.W.Frag} {mg : Str → Option Value} {base : Heap} {N : List Str} {qual : Str} {scope : Scope} {f : Addr} {cd : Value} {A : Around} {outer : List Env} {s : Shared} {H : Hp} {E : XK}
theorem cxOf_K : (cxOf CX P w K mg base N qual scope f cd A outer s H E).K = K := rfl
theorem cxOf_mg : (cxOf CX P w K mg base N qual scope f cd A outer s H E).mg = mg := rfl
end
/-! ### isinstance -/
def isa (d : PyData) (n : String) : Bool := match d with
  | .int _ => n == "int"
  | .bool _ => n == "bool" || n == "int"
  | .str _ => n == "str"
  | .tuple _ => n == "tuple"
  | .list _ => n == "list"
  | _ => false
def okTy (n : String) : Bool := n == "int" || n == "bool" || n == "str" || n == "tuple" || n == "list"
/-- what isinstance(x, n) answers -/
def IsaV (K : PySem.W.Frag) (H : Hp) (x : V) (n : String) (b : Bool) : Prop := match x with
  | .non => b = isa .none n
  | .bl k => b = isa (.bool k) n
  | .int i => b = isa (.int i) n
  | .str z => b = isa (.str z) n
  | .ref a => (∃ xs, SqL K H a xs ∧ b = (n == "list")) ∨ (∃ xs, SqT K H a xs ∧ b = (n == "tuple"))
  | _ => False
theorem IsaV.of {K : PySem.W.Frag} {H : Hp} {x : V} {d : PyData} {n : String} (h : Dp K H x d) : IsaV K H x n (isa d n) := by
  cases h with
  | non => rfl
  | bl b => rfl
  | int i => rfl
  | str z => rfl
  | lst h1 _ => exact .inl ⟨_, h1, rfl⟩
  | tup h1 _ => exact .inr ⟨_, h1, rfl⟩
theorem tyx_l {K : PySem.W.Frag} {H : Hp} {a : Addr} {xs : List V} (h : SqL K H a xs) : TyX K H (.ref a) (.type "list") := by
  rcases h with (h | ⟨o, h⟩) | ⟨o, its, n, h1, h2, _⟩
  · exact .base (.lst h)
  · exact .base (.frz h)
  · exact .kList h1 h2
theorem tyx_t {K : PySem.W.Frag} {H : Hp} {a : Addr} {xs : List V} (h : SqT K H a xs) : TyX K H (.ref a) (.type "tuple") := by
  rcases h with (h | ⟨o, h⟩) | ⟨o, its, n, h1, h2, _⟩
  · exact .base (.tup h)
  · exact .fTuple h
  · exact .kTuple h1 h2
theorem okTy_cases {n : String} (h : okTy n = true) : n = "int" ∨ n = "bool" ∨ n = "str" ∨ n = "tuple" ∨ n = "list" := by
  simp only [okTy, Bool.or_eq_true, beq_iff_eq] at h
  rcases h with (((h | h) | h) | h) | h <;> simp [h]
def rIsaV (K : PySem.W.Frag) : List V → Hp → VK → Prop := fun xs H Q => ∃ x n, xs = [x, V.ty n] ∧ okTy n = true ∧ ∃ b, IsaV K H x n b ∧ Q (.bl b) H
theorem call_isiV {X : Cx} : CallR X (.builtin "isinstance") (rIsaV X.K) := by
  intro pins s σ H xs us Q I r h
  obtain ⟨x, n, rfl, hn, b, hb, hq⟩ := h
  refine call_isi pins s σ H _ us Q I r ?_
  have fin : ∀ {t : String}, TyX X.K H x (.type t) → kitB t n = some b → rIsi X.K [x, V.ty n] H Q := fun {t} h1 h2 => ⟨x, .ty n, .type t, .type n, b, rfl, .ty n, h1, kit_ty h2, hq⟩
  have hn' := okTy_cases hn
  cases x with
  | non =>
    refine fin (.base .non) ?_
    have e : b = isa .none n := hb
    subst e
    rcases hn' with rfl | rfl | rfl | rfl | rfl <;> decide +kernel
  | bl k =>
    refine fin (.base (.bl k)) ?_
    have e : b = isa (.bool k) n := hb
    subst e
    rcases hn' with rfl | rfl | rfl | rfl | rfl <;> (simp only [isa]; decide +kernel)
  | int k =>
    refine fin (.base (.int k)) ?_
    have e : b = isa (.int k) n := hb
    subst e
    rcases hn' with rfl | rfl | rfl | rfl | rfl <;> (simp only [isa]; decide +kernel)
  | str k =>
    refine fin (.base (.str k)) ?_
    have e : b = isa (.str k) n := hb
    subst e
    rcases hn' with rfl | rfl | rfl | rfl | rfl <;> (simp only [isa]; decide +kernel)
  | ref a =>
    rcases hb with ⟨ys, h1, rfl⟩ | ⟨ys, h1, rfl⟩
    · refine fin (tyx_l h1) ?_
      rcases hn' with rfl | rfl | rfl | rfl | rfl <;> decide +kernel
    · refine fin (tyx_t h1) ?_
      rcases hn' with rfl | rfl | rfl | rfl | rfl <;> decide +kernel
  | byt _ => exact hb.elim
  | flt _ => exact hb.elim
  | ty _ => exact hb.elim
end WW

set_option maxHeartbeats 4000000
/-! ### the limit of digits is not set: told by the statics' own dict, a part of what is told -/
namespace WW
open PySem PySem.Spec PyProof.Rows L2
theorem noDigits_of {K : PySem.W.Frag} {h : Heap} (X : K.In h) (d : digB K = true) : h.NoDigits := by
  unfold digB at d
  split at d
  · rename_i c dd es n sl e
    obtain ⟨d1, d2⟩ := Bool.and_eq_true_iff.mp d
    refine ⟨nsFind es, ⟨_, es, n, X _ _ e, rfl, fun en hen => ?_, fun _ => rfl⟩, Option.isNone_iff_eq_none.mp d2⟩
    have q := Array.all_eq_true_iff_forall_mem.mp d1 en hen
    split at q
    · exact ⟨_, _, by assumption⟩
    · cases q
  · cases d
/-! ### str(x) of an int or a text -/
def P43 : Nat := 10 ^ 4300
def rStr1 : List V → Hp → VK → Prop := fun xs H Q => ∃ x, xs = [x] ∧ match x with
  | .int i => i.natAbs < P43 ∧ Q (.str (toString i)) H
  | .str z => Q (.str z) H
  | _ => False
theorem call_str1 {X : Cx} (hc : X.calm = true) (d : digB X.K = true) : CallR X (.type "str") rStr1 := by
  intro pins s σ H xs us Q I r h
  obtain ⟨x, rfl, h⟩ := h
  obtain ⟨u, rfl, ru⟩ := vals1 r
  cases x with
  | int i =>
    obtain ⟨t, rfl⟩ := ru
    obtain ⟨hi, hq⟩ := h
    unfold P43 at hi
    refine str_of_int_or (I.ok.hd hc) (noDigits_of I.kIn d) (fun _ => ⟨.str _, H, I.tok _, ⟨_, rfl⟩, hq⟩) (fun hge => absurd hi (Nat.not_lt.mpr hge))
  | str z =>
    obtain ⟨t, rfl⟩ := ru
    exact PySem.P.str_of_str ⟨.str z, H, I, ⟨t, rfl⟩, h⟩
  | _ => exact h.elim
/-! ### int(text), up to 4300 digits -/
theorem limit_here {M : Model} {A : Around} {E : Value → Shared → Prop} {s : Shared} {Q : Nat → Shared → Prop} (hn : s.heap.NoDigits) (h : Q 4300 s) : wpAny M A Builtin.intMaxStrDigits Q E s := by
  obtain ⟨mc, hns, hnone⟩ := hn
  unfold Builtin.intMaxStrDigits
  refine wpAny_bind (wpAny_nsGet hns ?_)
  rw [hnone]
  exact wpAny_pure h
theorem long_text {M : Model} {A : Around} {E : Value → Shared → Prop} {s : Shared} {Q : Value → Shared → Prop} {v : Value} {text : List Nat} {n : Int} (hn : s.heap.NoDigits)
    (hl : ¬ (text.takeWhile (· != 0)).length ≤ 640) (hr : (int_private% "readNumeral") 4300 10 (text.takeWhile (· != 0)) = (int_private% "Numeral.value") n)
    (ha : ((text.takeWhile (· != 0)).length == text.length) = true) (h : Q (.int n s.toks) { s with toks := s.toks + 1 }) :
    wpAny M A ((int_private% "intFromText") v text 10) Q E s := by
  obtain ⟨hp, g, d, tk, os⟩ := s
  repeat (any_goals (first
    | assumption
    | (with_reducible refine wpAny_ite_false (decide_eq_false hl) ?_)
    | (with_reducible refine wpAny_ite_true (decide_eq_true ha) ?_)
    | (with_reducible refine limit_here hn ?_)
    | wp_step))
  rw [hr]
  dsimp only
  repeat (any_goals (first
    | assumption
    | (with_reducible refine wpAny_ite_true (decide_eq_true ha) ?_)
    | (with_reducible refine wpAny_ite_true ha ?_)
    | wp_step))
structure Hidden (p : Prop) : Prop where
  out : p
theorem meets_long {x : PySem.Str} {u : Tok} {n : Int} (hl : ¬ (numSeenOf x).length ≤ 640) (hx : x.length ≤ sizeLine) (hn : PySem.intText? x = some n) :
    Meets (Builtin.«int.__new__» ⟨[.type "int", .str x u], []⟩) (fun _ R s => s.heap.NoDigits ∧ R (.ok (.ret (.int n s.toks))) { s with toks := s.toks + 1 }) := fun prog w A R s hS => by
  obtain ⟨hd, h⟩ := hS
  have f1 := F.conv_sub_int
  have f2 := F.madeHere_int
  have f3 := PySem.W.KIN.str_int
  have f4 := PySem.W.KIN.str_idx
  have f5 := PySem.W.KIN.str_trunc
  have f6 : typeOf (.str x u) = pure (.type "str") := rfl
  have hr : (int_private% "readNumeral") 4300 10 (numSeenOf x) = (int_private% "Numeral.value") n ∧ ((numSeenOf x).length == (numTextOf x).length) = true := by
    rcases read4300 x hx with ⟨m, h1, h2, h3⟩ | ⟨h1, _⟩
    · rw [hn] at h1
      injection h1 with h1
      subst h1
      exact ⟨h3, h2⟩
    · rw [hn] at h1
      cases h1
  have hk := Hidden.mk (And.intro hl hr)
  clear hl hr hn hx
  obtain ⟨hp, g, d, tk, os⟩ := s
  repeat (any_goals (first
    | assumption
    | ((with_reducible show wpAny _ _ ((int_private% "intFromText") _ _ _) _ _ _); refine long_text hd hk.out.1 hk.out.2.1 hk.out.2.2 ?_)
    | wp_step))
end WW

set_option maxHeartbeats 4000000
namespace WW
open PySem PySem.Spec PyProof.Rows L2
section
variable {X : Cx}
def rIntW : List V → Hp → VK → Prop := fun xs H Q => ∃ a, xs = [.str a] ∧ (∀ c ∈ a.cps.toList, c = 45 ∨ (48 ≤ c ∧ c ≤ 57)) ∧ a.length ≤ sizeLine ∧ ∃ n, PySem.intText? a = some n ∧ Q (.int n) H
theorem call_int_strW (d : digB X.K = true) : CallR X (.type "int") rIntW := by
  intro pins s σ H xs us Q I r h
  obtain ⟨a, rfl, hs, hl, n, hn, hq⟩ := h
  obtain ⟨u, rfl, t, rfl⟩ := vals1 r
  by_cases h6 : (numSeenOf a).length ≤ 640
  · have h7 : a.length ≤ 640 := by
      rw [(numText_signs hs).2] at h6
      exact h6
    exact PySem.W.KIN.call_text hn h7 ⟨.int n, H, I.tok _, ⟨_, rfl⟩, hq⟩
  · exact call_int_1 (meets_long h6 hl hn) ⟨noDigits_of I.kIn d, ⟨typeIs_int _ _ _, .int n, H, I.tok _, ⟨_, rfl⟩, hq⟩⟩
/-! ### text times int -/
theorem rep_toList (n : Nat) (l : List Nat) : (((List.replicate n l.toArray).foldl (· ++ ·) #[]) : Array Nat).toList = (List.replicate n l).flatten := by
  have g : ∀ (n : Nat) (acc : Array Nat), ((List.replicate n l.toArray).foldl (· ++ ·) acc).toList = acc.toList ++ (List.replicate n l).flatten := by
    intro n
    induction n with
    | zero => intro acc; simp
    | succ n ih =>
      intro acc
      rw [List.replicate_succ, List.foldl_cons, ih, List.replicate_succ, List.flatten_cons]
      simp [List.append_assoc]
  rw [g]
  simp
def repS (z : Str) (n : Nat) : Str := ⟨((List.replicate n z.cps.toList).flatten).toArray⟩
def rRepS : R2 := fun x y H Q => ∃ z n, x = .str z ∧ y = .int n ∧ 1 < n ∧ 1 ≤ z.length ∧ (z.length : Int) * n ≤ 16000000 ∧ Q (.str (repS z n.toNat)) H
theorem op_repS : OpR X (binaryOp .Mult) rRepS := by
  intro pins s σ H x y v u Q I rx ry h
  obtain ⟨z, n, rfl, rfl, h1, h0, h2, hq⟩ := h
  obtain ⟨t, rfl⟩ := rx
  obtain ⟨t', rfl⟩ := ry
  have hz1 : (1 : Int) ≤ z.length := by omega
  have hn : n ≤ 16000000 := by
    have := Int.mul_le_mul_of_nonneg_right hz1 (show 0 ≤ n by omega)
    omega
  have hlen : z.length * n.toNat ≤ 16000000 := by
    have e : ((z.length * n.toNat : Nat) : Int) = (z.length : Int) * n := by
      rw [Int.natCast_mul, Int.toNat_of_nonneg (by omega)]
    omega
  have c1 : ¬ n < 1 := by omega
  have c2 : (n == 1 || z.length == 0) = false := by
    have a1 : (n == 1) = false := beq_eq_false_iff_ne.mpr (by omega)
    have a2 : (z.length == 0) = false := beq_eq_false_iff_ne.mpr (by omega)
    rw [a1, a2]; rfl
  refine PySem.P.mul_str ?_ (fun _ _ => ?_) (fun _ _ => ?_) ?_
  · rw [decide_eq_false (by omega), decide_eq_false (by omega)]; rfl
  · have : (z.length : Int) ≤ (2 ^ 63 - 1) / n := by
      rw [Int.le_ediv_iff_mul_le (by omega)]
      omega
    omega
  · show decide (z.length * n.toNat > sizeLine) = false
    exact decide_eq_false (by rw [sizeLine_eq]; omega)
  · rw [if_neg c1, if_neg (by rw [c2]; exact Bool.false_ne_true)]
    have e : (⟨(List.replicate n.toNat z.cps).foldl (· ++ ·) #[]⟩ : Str) = repS z n.toNat := by
      apply TL.ext_tl
      show ((List.replicate n.toNat z.cps).foldl (· ++ ·) #[]).toList = ((List.replicate n.toNat z.cps.toList).flatten).toArray.toList
      have := rep_toList n.toNat z.cps.toList
      simpa using this
    rw [e]
    refine ⟨?_, .str _, H, I.tok _, ⟨_, rfl⟩, hq⟩
    have e2 : (repS z n.toNat).length = z.length * n.toNat := by
      show ((List.replicate n.toNat z.cps.toList).flatten).toArray.size = z.cps.size * n.toNat
      simp [List.length_flatten, Nat.mul_comm]
    rw [e2, sizeLine_eq]
    omega
theorem iop_mulW : OpR X (inplaceOp .Mult) (rI CMulW fun i j => .int (i * j)) := opI fun _ _ _ _ _ _ _ hc q => imul_int q hc.ok
end
/-! ### enumerate(text): each sign in a new pair -/
def IteS (z : Str) : It :=
  ⟨fun i _ => i < z.cps.size, fun i H v H' => ∃ T c, v = .ref T ∧ H T = none ∧ z.cps[i]? = some c ∧ H' = upd H T (.tup [.int (i : Nat), .str ⟨#[c]⟩]), fun i _ => i = z.cps.size⟩
def strTy (ty : String) : Prop := ty = "str_ascii_iterator" ∨ ty = "str_iterator"
theorem draws_str {P : Program} {w : World} {A : Around} (hh : A.handled = none) (it : Addr) (z : Str) (t : Tok) {ty : String} (hty : strTy ty) :
    Draws P w A it [it] z.cps.size (fun i v => ∃ c u, z.cps[i]? = some c ∧ v = .str ⟨#[c]⟩ u) (fun i h => h.IsStrIter it ty z t i) := by
  rcases hty with e | e
  · rw [e]; exact Draws.strAscii hh it z t
  · rw [e]; exact Draws.strWide hh it z t
theorem turn_enumS {P : Program} {w : World} {K : PySem.W.Frag} {elts : List Expr} {kk : Nat} {tpos : Pos} (e it : Addr) (z : Str) (t : Tok) {ty : String} (hty : strTy ty) :
    Turn P w K (.Tuple elts kk tpos) (IteS z) [e, it] e (fun i h => (∃ old, IsEnum h e it ((i : Nat) : Int) old) ∧ h.IsStrIter it ty z t i ∧ e ≠ it) where
  mem := List.mem_cons_self
  obj := fun i h st b hb => by
    obtain ⟨⟨old, he⟩, ⟨o, ho, hc, hd⟩, _⟩ := st
    rcases List.mem_cons.mp hb with q | q
    · subst q
      exact ⟨_, he, fun v r => nomatch r⟩
    · have q := List.mem_singleton.mp q
      subst q
      exact ⟨o, ho, fun v r => by rw [hd] at r; cases r⟩
  keep := fun i h h' st k => by
    obtain ⟨⟨old, he⟩, ⟨o, ho, r⟩, hne⟩ := st
    exact ⟨⟨old, k e (List.mem_cons_self) _ he⟩, ⟨o, k it (List.mem_cons_of_mem _ List.mem_cons_self) o ho, r⟩, hne⟩
  item := by
    intro X hP hw hK hc i pins s σ H E I hf st hg
    subst hP hw hK
    obtain ⟨⟨old, he⟩, hit, hne⟩ := st
    have hel : e < s.heap.objs.size := Heap.lt_size he
    have hil : it < s.heap.objs.size := by
      obtain ⟨_, q, _⟩ := hit
      exact Heap.lt_size q
    have hef : e ∉ [it] := fun q => hne (List.mem_singleton.mp q)
    have D := draws_str (P := X.prog) (w := X.w) (A := X.A.in1) (I.ok.hd hc) it z t hty
    refine wpAny_pyNext_enum_itemD D he hit hg hne hef fun v h' tk hv ho hit' hT hsz hk => ?_
    obtain ⟨c, u, hcx, rfl⟩ := hv
    refine ⟨_, rfl, wpAny_letOwnedTupleGo_enum (s := { s with heap := h', toks := tk + 1 }) ho fun h2 he2 sb => ?_⟩
    have hT2 : h2.get? s.heap.objs.size = some { cls := .type "tuple", data := .seq #[.int i tk, .str ⟨#[c]⟩ u] } := (sb.2 _ (Nat.ne_of_gt hel)).trans hT
    have new : ObjOk X.prog X.w (upd H s.heap.objs.size (.tup [.int (i : Nat), .str ⟨#[c]⟩])) h2 s.heap.objs.size (.tup [.int (i : Nat), .str ⟨#[c]⟩]) :=
      ⟨by show 2 ≤ sizeLine; decide, [.int i tk, .str ⟨#[c]⟩ u], .cons ⟨_, rfl⟩ (.cons ⟨_, rfl⟩ .nil), ⟨_, hT2, rfl, _, rfl⟩⟩
    have out : ∀ b, b ∉ [e, it] → b ≠ e ∧ b ≠ it := fun b hb => ⟨fun q => hb (by rw [q]; exact List.mem_cons_self), fun q => hb (by rw [q]; exact List.mem_cons_of_mem _ List.mem_cons_self)⟩
    have I1 : Inv X pins σ (upd H s.heap.objs.size (.tup [.int (i : Nat), .str ⟨#[c]⟩])) { s with heap := h2, toks := tk + 1 } :=
      I.turnedNew (ch := [e, it]) (fun b ob hb q => (sb.2 b (out b hb).1).trans (hk b ob (out b hb).1 (out b hb).2 q)) hf (Nat.le_refl _) new
    refine ⟨.ref s.heap.objs.size, _, I1, rfl, ⟨_, c, rfl, I.hok.fresh (Nat.le_refl _), hcx, rfl⟩, ⟨⟨.str ⟨#[c]⟩ u, ?_⟩, ?_, hne⟩, fun b hb => ?_⟩
    · have e1 : ((i + 1 : Nat) : Int) = (i : Int) + 1 := by omega
      rw [e1]
      exact he2
    · obtain ⟨oi, q, r⟩ := hit'
      exact ⟨oi, (sb.2 it (Ne.symm hne)).trans q, r⟩
    · have hb' : b < s.heap.objs.size := by
        rcases List.mem_cons.mp hb with q | q
        · rw [q]; exact hel
        · rw [List.mem_singleton.mp q]; exact hil
      rw [upd_ne (Nat.ne_of_lt hb')]
      exact (hf b hb).1
  done := by
    intro X hP hw hK hc i pins s σ H E I hf st hg
    subst hP hw hK
    obtain ⟨⟨old, he⟩, hit, hne⟩ := st
    have hi : i = z.cps.size := hg
    subst hi
    obtain ⟨f0, f1, f2, f3, f4, f5⟩ := hf it (List.mem_cons_of_mem _ List.mem_cons_self)
    have D := draws_str (P := X.prog) (w := X.w) (A := X.A.in1) (I.ok.hd hc) it z t hty
    exact wpAny_pyNext_enum_endD D he hit fun h' eb => ⟨rfl, I.turned (t' := s.toks) (fun b o hb q => eb b o hb q) f0 f1 f3 f4 f5⟩
  self := fun A i s Q E st h => let ⟨⟨_, he⟩, _⟩ := st; wpAny_pyIter_enum he h
def iEnumS (ta : TA) : TI := fun σ H R => ta σ H fun vs H1 => ∃ z, vs = [.str z] ∧ R (IteS z) H1
theorem pi_enumS {X : Cx} {e : Expr} {ta : TA} {p pos tpos : Pos} {elts : List Expr} {kk : Nat} (hg : Gl X "enumerate") (hm : X.mg "enumerate" = none) (ha : PA X [e] ta) (hs : starEach [e] X.env = [(false, eval e X.env)] := by rfl) :
    PI X (.Tuple elts kk tpos) (.Call (.Name "enumerate" p) [e] [] pos) (iEnumS ta) := by
  constructor
  intro pins s σ H R I h
  refine Call_ (ld_blt I hg hm boot_enumerate (PyProof.Rows.callWith_type1 (thn (ha.run pos pins s σ H _ I h) fun us s1 hh => ?_) hs rfl))
  obtain ⟨vs, H1, I1, r1, z, rfl, q⟩ := hh
  obtain ⟨u, rfl, t, rfl⟩ := vals1 r1
  refine PySem.call_enumerate_str fun h' he hit hsz hk => wpAny_pyIter_enum he ?_
  have I2 : Inv X pins σ H1 { s1 with heap := h' } := I1.kept (t' := s1.toks) hk
  have hty : strTy (strIterType z) := by
    unfold strIterType
    split
    · exact .inl rfl
    · exact .inr rfl
  refine ⟨s1.heap.objs.size + 1, [s1.heap.objs.size + 1, s1.heap.objs.size], _, _, H1, rfl, I2, turn_enumS (s1.heap.objs.size + 1) s1.heap.objs.size z t hty, ⟨⟨.none, he⟩, hit, Nat.succ_ne_self _⟩, fun b hb => ?_, q⟩
  have hle : s1.heap.objs.size ≤ b := by
    rcases List.mem_cons.mp hb with q | q
    · rw [q]; exact Nat.le_add_right _ _
    · rw [List.mem_singleton.mp q]; exact Nat.le_refl _
  exact I1.fpOk hle (I1.hok.fresh hle)
theorem walk_enumS {z : Str} : Walk (IteS z) z.cps.size (fun _ => True) (fun i H v H' => ∃ T c, v = .ref T ∧ H T = none ∧ z.cps[i]? = some c ∧ H' = upd H T (.tup [.int (i : Nat), .str ⟨#[c]⟩])) :=
  ⟨fun _ _ hi _ => hi, fun _ _ => rfl, fun _ _ _ _ _ _ y => y⟩
/-! ### repr of data -/
def rRepr (K : PySem.W.Frag) : List V → Hp → VK → Prop := fun xs H Q => ∃ x d, xs = [x] ∧ Dp K H x d ∧ d.showable = true ∧ d.hasDict = false ∧ d.depth ≤ 500 ∧ d.shown.length ≤ sizeLine ∧ Q (.str d.shown) H
theorem call_repr {X : Cx} (hg : X.A.guards = some []) (hu : X.A.units + 1000 < cLine) : CallR X (.builtin "repr") (rRepr X.K) := by
  intro pins s σ H xs us Q I r h
  obtain ⟨x, d, rfl, hx, h1, h2, h3, h4, hq⟩ := h
  obtain ⟨u, rfl, ru⟩ := vals1 r
  cases hx with
  | non =>
    cases ru
    exact PySem.P.repr_of_none ⟨.str _, H, I.tok _, ⟨_, rfl⟩, hq⟩
  | bl b =>
    cases ru
    exact PySem.P.repr_of_bool ⟨.str _, H, I.tok _, ⟨_, rfl⟩, hq⟩
  | int i =>
    obtain ⟨t, rfl⟩ := ru
    have h1' : i.natAbs.log2 < 1920 := by simpa [PyData.showable] using h1
    exact PySem.P.repr_of_int h1' ⟨.str _, H, I.tok _, ⟨_, rfl⟩, hq⟩
  | str z =>
    obtain ⟨t, rfl⟩ := ru
    exact PySem.P.repr_of_str ⟨.str _, H, I.tok _, ⟨_, rfl⟩, hq⟩ h4
  | lst a b =>
    cases ru
    obtain ⟨as, hr⟩ := Dp.reads I _ _ _ (Dp.lst a b) rfl
    exact repr_of_reads' hr h1 (PyData.noDict_hsm h2) hg (by omega) (fun _ _ e => e) (fun h' u tk hk => ⟨.str _, H, I.kept (t' := tk) hk, ⟨_, rfl⟩, hq⟩) h4
  | tup a b =>
    cases ru
    obtain ⟨as, hr⟩ := Dp.reads I _ _ _ (Dp.tup a b) rfl
    exact repr_of_reads' hr h1 (PyData.noDict_hsm h2) hg (by omega) (fun _ _ e => e) (fun h' u tk hk => ⟨.str _, H, I.kept (t' := tk) hk, ⟨_, rfl⟩, hq⟩) h4
end WW

set_option maxHeartbeats 4000000
namespace WW
open PySem PySem.Spec PyProof.Rows L2
/-! ### the head's facts, with the statics' dict beside -/
def partS (n : Nat) (g : Addr → Option Obj) : PySem.W.Frag := He.frG g (cStatics :: He.asD g n)
abbrev AlS : Type := He.AlD × Bool
def obsS (n : Nat) (fa : List He.Fa) (fn : List He.DefD) (g : Addr → Option Obj) : AlS := (He.obsD fa fn (partS n g), digB (partS n g) && exB (partS n g))
def hookS (n : Nat) (fa : List He.Fa) (fn : List He.DefD) : PySem.W.Hook where
  α := AlS
  obs := fun s => obsS n fa fn s.heap.get?
  val := fun _ => (He.valD fn, true)
  says := fun _ h => ∃ K : PySem.W.Frag, K.In h ∧ (He.SaysD fa fn K ∧ (digB K && exB K) = true)
  of := fun _ _ e => ⟨_, He.frG_in, congrArg (fun z : AlS => z.1) e, congrArg (fun z : AlS => z.2) e⟩
  keeps := fun _ _ _ hh k => by
    obtain ⟨K, hK, c⟩ := hh
    exact ⟨K, PySem.W.Frag.In.keeps hK k, c⟩
theorem obsS_eq {n : Nat} {fa : List He.Fa} {fn : List He.DefD} {g : Addr → Option Obj} {s : Shared} (h : ∀ a, g a = s.heap.get? a) : obsS n fa fn g = (hookS n fa fn).obs s := by
  have e : g = s.heap.get? := funext h
  rw [e]
  rfl
/-! ### a law's def, called from the top alone: nothing is being shown then -/
structure LawOk (P : Program) (w : World) (K : PySem.W.Frag) (mg : Str → Option Value) (base : Heap) (fa : Addr) (x : Str) (fd : FuncData) (sp : Sp) : Prop where
  run : ∀ (s : Shared) (H : Hp) (us : List Value) (vs : List V) (Q : VK) (E : XK), Env0 P w K mg base callerA [] s H → BindsTo s fd ⟨us, []⟩ ([x].zip us) → Vals vs us → sp vs H Q E →
    codeAny (model P w) callerA (.call (.ref fa) ⟨us, []⟩) (CR (CT false P w) [] P w H s Q E) s
theorem law_run {P : Program} {w : World} {K : PySem.W.Frag} {mg mb : Str → Option Value} {fa a : Addr} {fd : FuncData} {x : Str} {sp : Sp} {s₁ : Shared} {vs : List Value} {ns : List Int}
    (KX : K.In s₁.heap) (G : s₁.heap.Ns mainGlobals mg) (B : s₁.heap.Ns builtinsNs mb) (hmb : ∀ y : Str, y ≠ "__name__" → mb y = bootBuiltins y) (lim : s₁.heap.NoLimit) (hgens : s₁.gens = #[])
    (ha : s₁.heap.get? a = some { cls := .type "list", data := .seq vs.toArray }) (hi : IntsAre vs ns) (hl : ns.length ≤ sizeLine)
    (F : ∀ base : Heap, K.In base → base.Ns mainGlobals mg → LawOk P w K mg base fa x fd sp) (hb : ∀ (s : Shared) (u : Value), BindsTo s fd ⟨[u], []⟩ [(x, u)])
    (hsp : ∀ H : Hp, Only H → SqL K H a (ns.map V.int) → sp [.ref a] H (fun v _ => v = .bl true) fun _ _ _ => False) :
    codeAny (model P w) callerA (.call (.ref fa) ⟨[.ref a], []⟩) (fun r s' => r = .ok (.ret (.bool true)) ∧ OldK s₁.heap s'.heap ∧ s'.os = s₁.os ∧ AllBare s'.gens) s₁ := by
  have rv := vals_ints hi
  have lv := hi.length
  have go : ∀ H : Hp, Only H → SqL K H a (ns.map V.int) → HOk P w H s₁.heap → (∀ b, H b ≠ none → b = a) → (H a ≠ none → K.lookup a = none) →
      codeAny (model P w) callerA (.call (.ref fa) ⟨[.ref a], []⟩) (fun r s' => r = .ok (.ret (.bool true)) ∧ OldK s₁.heap s'.heap ∧ s'.os = s₁.os ∧ AllBare s'.gens) s₁ := by
    intro H hO hS hok only kno
    have inB : ∀ {b : Addr} {o : Obj}, s₁.heap.get? b = some o → H b = none → (hidT s₁.heap H).get? b = some o := fun e n => hidT_get e n
    have dic : ∀ {b : Addr} {o : Obj} {es : Array DictEntry} {ep : Nat}, s₁.heap.get? b = some o → o.data = .dict es ep → H b = none := by
      intro b o es ep e d
      cases q : H b with
      | none => rfl
      | some u =>
        have e' := only b (by rw [q]; exact fun z => nomatch z)
        subst e'
        rw [ha] at e
        cases e
        cases (show Data.seq vs.toArray _ = Data.dict es ep from d)
    have nsB : ∀ {b : Addr} {m : Str → Option Value}, s₁.heap.Ns b m → (hidT s₁.heap H).Ns b m := by
      rintro b m ⟨o, es, ep, e, d, r⟩
      exact ⟨o, es, ep, inB e (dic e d), d, r⟩
    have kB : K.In (hidT s₁.heap H) := by
      intro b o e
      refine inB (KX b o e) ?_
      cases q : H b with
      | none => rfl
      | some u =>
        have e' := only b (by rw [q]; exact fun z => nomatch z)
        subst e'
        rw [kno (by rw [q]; exact fun z => nomatch z)] at e
        cases e
    have md : Mod K mg (hidT s₁.heap H) := by
      refine ⟨kB, nsB G, ⟨mb, nsB B, hmb⟩, ?_⟩
      obtain ⟨mc, h1, h2⟩ := lim
      exact ⟨mc, nsB h1, h2⟩
    have e0 : Env0 P w K mg (hidT s₁.heap H) callerA [] s₁ H :=
      { frames := rfl, mod := md, bs := fun b o e => of_hidT e, bsz := Nat.le_of_eq (hidT_size _ _), funs := trivial, frf := (fun b hb => nomatch (show b ∈ ([] : List Addr) from hb)), hok := hok, bare := .of_eq hgens }
    refine codeAny_mono ((F _ kB (nsB G)).run s₁ H [.ref a] [.ref a] _ _ e0 (hb s₁ (.ref a)) (.cons rfl .nil) (hsp H hO hS)) fun r s' h => ?_
    cases r with
    | error e =>
      obtain ⟨_, _, _, _, _, _, _, _, z⟩ := h
      exact z.elim
    | ok fl =>
      cases fl with
      | next => exact h.elim
      | brk => exact h.elim
      | cont => exact h.elim
      | ret u =>
        obtain ⟨v, H', os, bare, un, hok', r', q⟩ := h
        have q' : v = .bl true := q
        subst q'
        obtain rfl : u = Value.bool true := r'
        refine ⟨rfl, OldK.of_keep fun b o e => ?_, os, bare⟩
        cases q : H b with
        | none => exact un.keep b o e q (fun z => nomatch (show b ∈ ([] : List Addr) from z)) (fun z => nomatch z)
        | some u =>
          rcases hO b with z | ⟨ob, xs, z⟩
          · rw [q] at z
            cases z
          · obtain ⟨e1, _⟩ := hok b _ z
            obtain ⟨e2, _⟩ := hok' b _ (un.frzs b ob _ z)
            rw [e] at e1
            cases e1
            exact e2
  cases hk : K.lookup a with
  | some o =>
    have e := KX a o hk
    rw [ha] at e
    cases e
    refine go (fun _ => none) (fun _ => .inl rfl) (.inr ⟨_, vs.toArray, _, hk, rfl, rfl, rfl, ?_, by simpa using rv⟩) (fun b u z => nomatch (show (none : Option HO) = some u from z)) (fun b z => absurd rfl z) (fun z => absurd rfl z)
    rw [List.size_toArray, lv]
    exact hl
  | none =>
    let H0 : Hp := fun b => if b = a then some (.frz { cls := .type "list", data := .seq vs.toArray } (.lst (ns.map V.int))) else none
    have h0 : H0 a = some (.frz { cls := .type "list", data := .seq vs.toArray } (.lst (ns.map V.int))) := if_pos rfl
    have h1 : ∀ b, b ≠ a → H0 b = none := fun b n => if_neg n
    refine go H0 (fun b => ?_) (.inl (.inr ⟨_, h0⟩)) (fun b u z => ?_) (fun b z => ?_) fun _ => hk
    · by_cases q : b = a
      · subst q
        exact .inr ⟨_, _, h0⟩
      · exact .inl (h1 b q)
    · by_cases q : b = a
      · subst q
        rw [h0] at z
        cases z
        exact ⟨ha, by rw [List.length_map]; exact hl, vs, _, rv, ha⟩
      · rw [h1 b q] at z
        cases z
    · by_cases q : b = a
      · exact q
      · exact absurd (h1 b q) z
theorem law_walk {l : PySem.W.OpenLaw} {n : Nat} {q : Program} {loose : List Str} {XP : (Str → Option Value) → Heap → Prop} {YP : World → Heap → Prop} {d : DefRec} {x : Str}
    (hn : l.most = some n) (hn2 : n ≤ sizeLine) (hdf : d.params.defaults = [])
    (F : ∀ (w : World) (mg : Str → Option Value) (fa : Addr) (h : Heap), YP w h → h.Ns mainGlobals mg → mg d.name = some (.ref fa) →
      ∃ (K : PySem.W.Frag) (fd : FuncData) (sp : Sp), K.In h ∧ (∀ (s : Shared) (u : Value), BindsTo s fd ⟨[u], []⟩ [(x, u)]) ∧
        (∀ (H : Hp) (a : Addr) (ns : List Int), ns.length ≤ n → Only H → SqL K H a (ns.map V.int) → sp [.ref a] H (fun v _ => v = .bl true) fun _ _ _ => False) ∧
        ∀ base : Heap, K.In base → base.Ns mainGlobals mg → LawOk l.prog w K mg base fa x fd sp) :
    PySem.W.WalkO q loose XP YP l.row.toRowW d [] (fun f vs => PySem.call f vs) := by
  refine Att.attach_call hn hdf fun w s₀ s₁ mg mb fa o pm cd doc a vs ns G Y _ _ _ hmg hobj hints hlen hg => ?_
  obtain ⟨K, fd, sp, KX, hb, hsp, hF⟩ := F w mg fa _ Y G.T.g hmg
  exact law_run KX G.T.g G.T.b G.T.builtins G.T.nolimit hg hobj hints (Nat.le_trans hlen hn2) hF hb fun H hO hS => hsp H a ns hlen hO hS
section
variable {fa : List He.Fa} {fn : List He.DefD} {P : Program} {w : World} {K : PySem.W.Frag} {mg : Str → Option Value} {base : Heap}
/-- THE RULE for the law's def -/
theorem okLaw (W : Wd fa fn K mg) {d : He.DefD} (i : Nat) {x : Str} {N : List Str} {k : Nat} {sp : Sp} (S : FnScope N [x] d.scope) (hr : Room (k + 1) callerA) (hi : fn[i]? = some d := by rfl) (hd : d.dfl = [] := by rfl)
    (len : ∀ vs H Q E, sp vs H Q E → vs.length = [x].length)
    (hbody : ∀ (base : Heap) (cdv : Value) (s : Shared) (H : Hp) (vs : List V) (Q : VK) (E : XK), Room k (callerA.deeper (envOfC d.qual d.scope s.heap.objs.size (He.fAd K d.at_) cdv)) → N.Nodup → (callerA.deeper (envOfC d.qual d.scope s.heap.objs.size (He.fAd K d.at_) cdv)).units + 1 < cLine →
      Tk false (cxOf (CT false P w) P w K mg base N d.qual d.scope (He.fAd K d.at_) cdv callerA [] s H E) (fun cls dd _ H => E cls dd H) →
      PassesOwn (model P w) (callerA.deeper (envOfC d.qual d.scope s.heap.objs.size (He.fAd K d.at_) cdv)) (envOfC d.qual d.scope s.heap.objs.size (He.fAd K d.at_) cdv) (cxOf (CT false P w) P w K mg base N d.qual d.scope (He.fAd K d.at_) cdv callerA [] s H E).xe → sp vs H Q E →
      ∃ t, PSs (cxOf (CT false P w) P w K mg base N d.qual d.scope (He.fAd K d.at_) cdv callerA [] s H E) d.body t ∧ t { nx := fun _ H' => Q .non H', rt := Q } (start N vs) H) :
    ∃ fd, FunD K d.name d.qual d.params d.body d.scope [] (d.kws K) (He.fAd K d.at_) fd ∧ ∀ base : Heap, LawOk P w K mg base (He.fAd K d.at_) x fd sp := by
  obtain ⟨fd, F⟩ := W.c.def_ i hi
  have e : d.dvs K = [] := by unfold He.DefD.dvs; rw [hd]; rfl
  rw [e] at F
  refine ⟨fd, F, fun base => ⟨?_⟩⟩
  obtain ⟨oc, od, dV, kV, doc, pm, an, cdv, ct, osl, rfl, lk, hcd, _, _⟩ := F.ex
  intro s H us vs Q E e0 hb r hsp
  have hl := len _ _ _ _ hsp
  have kept : ∀ b o, base.get? b = some o → s.heap.get? b = some o := fun b o q => (e0.bs b o q).1
  have KX : K.In s.heap := e0.mod.kin.keeps kept
  have lim : s.heap.NoLimit := e0.mod.nolimit.keeps kept
  have kinds : ∀ y ∈ [x].zip us, d.scope.names.lookup y.1 = some .local ∨ (d.scope.names.lookup y.1 = some .cell ∧ ((cellsFrom (s.heap.objs.size + 1) d.scope.names []).lookup y.1).isSome = true) := by
    rintro ⟨n, v⟩ hy
    rcases S.par n (List.of_mem_zip hy).1 with q | q
    · exact .inl q
    · exact .inr ⟨q, PySem.W.cellsFrom_some _ _ _ (.inl q)⟩
  refine codeAny_call_function hr.depth (KX _ _ lk) rfl S.co S.gen rfl (PySem.W.codeRec_of KX hcd) (hb _ _ _ _ ?_)
  refine wpAny_newFunctionEnv_cells S.kind kinds fun env he s1 z => ?_
  subst he
  refine ⟨lim.keeps z.toInCall.keep, codeAny_func ?_⟩
  obtain ⟨t, ht, hq⟩ := hbody base cdv s H vs Q E (hr.deeper _) S.nd (hu_of (hr.deeper _)) (tk_of rfl rfl rfl rfl) (passes_of rfl) hsp
  have I : Inv (cxOf (CT false P w) P w K mg base N d.qual d.scope (He.fAd K d.at_) cdv callerA [] s H E) [] (L2.start N vs) H s1 := inv_start S hr.hd e0 hl r z
  refine wpAny_mono (ht.run [] s1 (L2.start N vs) H _ I hq) (fun fl s' hs => ?_) fun e s' hs => hs
  have fin : ∀ {σ' : L2.St} {H' : Hp} {v : V} {u : Value}, Inv (cxOf (CT false P w) P w K mg base N d.qual d.scope (He.fAd K d.at_) cdv callerA [] s H E) [] σ' H' s' → RelV v u → Q v H' → CE [] P w H s Q u s' :=
    fun {σ' H' v u} J rv q => ⟨v, H', J.os, J.bare, J.base, J.hok, rv, q⟩
  cases fl with
  | ret u =>
    obtain ⟨v, σ', H', J, rv, q⟩ := hs
    exact fin J rv q
  | next =>
    obtain ⟨σ', H', J, q⟩ := hs
    exact fin (v := V.non) (u := Value.none) J rfl q
  | brk =>
    obtain ⟨_, _, _, q⟩ := hs
    exact q.elim
  | cont =>
    obtain ⟨_, _, _, q⟩ := hs
    exact q.elim
end
end WW

set_option maxHeartbeats 4000000
namespace WW
open PySem PySem.Spec PyProof.Rows L2
/-- a def keeps a promise; n: what it lets out has no context -/
structure OkN (n : Bool) (P : Program) (w : World) (K : PySem.W.Frag) (mg : Str → Option Value) (base : Heap) (d : He.DefD) (k : Nat) (ps : List Str) (sp : Sp) : Prop where
  ex : ∃ fd, FnOk P w K mg base (CT n P w) k (He.fAd K d.at_) fd ps sp ∧ Binds K fd ps [] ∧ PySem.W.keepIn K (.ref (He.fAd K d.at_)) = true
abbrev OkF := OkN true
abbrev OkG := OkN false
section
variable {n : Bool} {P : Program} {w : World} {K : PySem.W.Frag} {mg : Str → Option Value} {base : Heap} {d : He.DefD} {j k : Nat} {ps : List Str} {sp sp' : Sp}
theorem OkN.mono (o : OkN n P w K mg base d j ps sp) (h : j ≤ k) : OkN n P w K mg base d k ps sp := by
  obtain ⟨fd, F, b, kp⟩ := o.ex
  exact ⟨fd, F.mono h, b, kp⟩
theorem OkN.imp (o : OkN n P w K mg base d k ps sp) (h : ∀ vs H Q E, sp' vs H Q E → sp vs H Q E) : OkN n P w K mg base d k ps sp' := by
  obtain ⟨fd, F, b, kp⟩ := o.ex
  exact ⟨fd, F.imp h, b, kp⟩
end
section
variable {fa : List He.Fa} {fn : List He.DefD} {P : Program} {w : World} {K : PySem.W.Frag} {mg : Str → Option Value} {base : Heap}
/-- what a body is given -/
structure Body (n : Bool) (P : Program) (w : World) (X : Cx) (E : XK) : Prop where
  po : PassesOwn (model P w) X.A X.env X.xe
  pa : ∀ hd : Option Value, PassesOwnAt (model P w) (X.A.mark hd) X.A X.env X.xe
/-- THE RULE for a def -/
theorem okfN (n : Bool) (W : Wd fa fn K mg) {d : He.DefD} (i : Nat) {N ps : List Str} {k : Nat} {sp : Sp} (S : FnScope N ps d.scope) (hi : fn[i]? = some d := by rfl) (hd : d.dfl = [] := by rfl)
    (hb : ∀ (kV doc pm : Value) (an : Option Addr) (cdv ct : Value) (us : List Value), us.length = ps.length → bindArgs (PySem.W.fnOf d.name d.qual d.params d.body d.scope .none kV doc pm an cdv ct) ⟨us, []⟩ = pure (ps.zip us))
    (len : ∀ vs H Q E, sp vs H Q E → vs.length = ps.length)
    (hbody : ∀ (cdv : Value) (A : Around) (outer : List Env) (s : Shared) (H : Hp) (vs : List V) (Q : VK) (E : XK), Room k (A.deeper (envOfC d.qual d.scope s.heap.objs.size (He.fAd K d.at_) cdv)) → N.Nodup → (A.deeper (envOfC d.qual d.scope s.heap.objs.size (He.fAd K d.at_) cdv)).units + 1 < cLine →
      Tk n (cxOf (CT n P w) P w K mg base N d.qual d.scope (He.fAd K d.at_) cdv A outer s H E) (fun cls dd _ H => E cls dd H) →
      Body n P w (cxOf (CT n P w) P w K mg base N d.qual d.scope (He.fAd K d.at_) cdv A outer s H E) E → sp vs H Q E →
      ∃ t, PSs (cxOf (CT n P w) P w K mg base N d.qual d.scope (He.fAd K d.at_) cdv A outer s H E) d.body t ∧ t { nx := fun _ H' => Q .non H', rt := Q } (start N vs) H) :
    OkN n P w K mg base d (k + 1) ps sp := by
  obtain ⟨fd, F⟩ := W.c.def_ i hi
  have e : d.dvs K = [] := by unfold He.DefD.dvs; rw [hd]; rfl
  rw [e] at F
  refine ⟨fd, F.ok S len (fun cdv A outer s H vs Q E hr h => hbody cdv A outer s H vs Q E hr S.nd (hu_of hr) ?_ ⟨?_, ?_⟩ h), FunD.bindsN F hb, F.kp⟩
  · exact tk_of rfl rfl rfl rfl
  · exact passes_of rfl
  · exact L2H.passesAt_of rfl
/-! ### raising Malformed -/
def mal (K : PySem.W.Frag) : Value := .ref (He.ga K "Malformed")
/-- it may be raised, with the text z -/
def BadT (K : PySem.W.Frag) (E : XK) (H : Hp) (z : Str) : Prop := ∀ t H', Same H H' → H' t = some (.tup [.str z]) → E (mal K) (some t) H'
def Bad (K : PySem.W.Frag) (E : XK) (H : Hp) : Prop := ∀ z, BadT K E H z
theorem BadT.same {E : XK} {H H1 : Hp} {z : Str} (b : BadT K E H z) (s : Same H H1) : BadT K E H1 z := fun t H' s' h => b t H' (Same.trans s s') h
theorem Bad.same {E : XK} {H H1 : Hp} (b : Bad K E H) (s : Same H H1) : Bad K E H1 := fun z => (b z).same s
theorem BadT.x {E : XK} {H H1 : Hp} {z : Str} (b : BadT K E H z) (s : Same H H1) : tX (.ref (He.ga K "Malformed")) z H1 E := fun t ht => b t _ (Same.trans s fun p u e => by rw [upd_ne (ne_of_none e ht)]; exact e) upd_same
theorem Bad.x {E : XK} {H H1 : Hp} {z : Str} (b : Bad K E H) (s : Same H H1) : tX (.ref (He.ga K "Malformed")) z H1 E := (b z).x s
section
variable {fa : List He.Fa} {fn : List He.DefD} {K : PySem.W.Frag} {mg : Str → Option Value}
/-- C(e) -/
theorem Wd.pmk (W : Wd fa fn K mg) (i j : Nat) {x : Str} {X : Cx} {e : Expr} {ta : TE} {p pos : Pos} (hg : Gl X x) (he : PE X e ta) (e1 : fa[i]? = some (.exc x) := by rfl) (e2 : fa[j]? = some (.glo x) := by rfl) (hK : X.K = K := by rfl) (hm : X.mg = mg := by rfl)
    (hs : starEach [e] X.env = (false, eval e X.env) :: starEach [] X.env := by rfl) (hdb : (x == ("__debug__" : Str)) = false := by decide) : PMkT X (.Call (.Name x p) [e] [] pos) (fun σ H Q => ta σ H fun v H1 => ∃ z, v = .str z ∧ tX (.ref (He.ga K x)) z H1 Q) := by
  subst hK hm
  obtain ⟨q1, q2, q3, q4⟩ := He.exc_ok (K := X.K) (x := x) (W.c.fact i e1)
  exact pmkT PySem.F.excBase_ValueError q1 (W.glo j e2) q2 (raises_own q3 q4) hg he hs hdb
end
end
end WW

set_option maxHeartbeats 4000000
namespace WW
open PySem PySem.Spec PyProof.Rows L2
def top (i : Nat) : Stmt := PySem.Challenge.pw_wirewary_k63_whole_texts_of_diaries.main.body.getD i (.Pass ⟨0, 0, 0, 0⟩)
abbrev s_is_whole : Stmt := (top 6)
abbrev s_same : Stmt := (top 7)
abbrev s_is_word : Stmt := (top 12)
abbrev s_is_short : Stmt := (top 13)
abbrev s_write_data : Stmt := (top 14)
abbrev s_read_whole : Stmt := (top 15)
abbrev s_pieces_of : Stmt := (top 16)
abbrev s_DataReader___init__ : Stmt := (inClass (top 17) 0)
abbrev s_DataReader_item : Stmt := (inClass (top 17) 1)
abbrev s_DataReader_open_one : Stmt := (inClass (top 17) 2)
abbrev s_DataReader_close_one : Stmt := (inClass (top 17) 3)
abbrev s_DataReader_comma : Stmt := (inClass (top 17) 4)
abbrev s_DataReader_take : Stmt := (inClass (top 17) 5)
abbrev s_read_data : Stmt := (top 18)
abbrev s_Reply___init__ : Stmt := (inClass (top 20) 0)
abbrev s_Reply___eq__ : Stmt := (inClass (top 20) 1)
abbrev s_is_text : Stmt := (top 23)
abbrev s_write_diary : Stmt := (top 24)
abbrev s_read_part : Stmt := (top 25)
abbrev s_read_diary : Stmt := (top 26)
abbrev s__law_draw : Stmt := (top 28)
abbrev s__law_take : Stmt := (top 29)
abbrev s__law_data : Stmt := (top 30)
abbrev s__law_is_word : Stmt := (top 31)
abbrev s__law_read : Stmt := (top 32)
abbrev s__law_due : Stmt := (top 33)
abbrev s__law_told : Stmt := (top 34)
abbrev s__law_fits : Stmt := (top 35)
abbrev s_law : Stmt := (top 36)
theorem sc_is_whole : FnScope ["value"] ["value"] (defScope s_is_whole) := ⟨rfl, rfl, rfl, by decide +kernel, rfl, by decide +kernel, by decide +kernel⟩
theorem sc_same : FnScope ["one", "two", "waiting", "first", "second"] ["one", "two"] (defScope s_same) := ⟨rfl, rfl, rfl, by decide +kernel, rfl, by decide +kernel, by decide +kernel⟩
theorem sc_is_word : FnScope ["value", "sign"] ["value"] (defScope s_is_word) := ⟨rfl, rfl, rfl, by decide +kernel, rfl, by decide +kernel, by decide +kernel⟩
theorem sc_is_short : FnScope ["value", "most", "_"] ["value"] (defScope s_is_short) := ⟨rfl, rfl, rfl, by decide +kernel, rfl, by decide +kernel, by decide +kernel⟩
theorem sc_write_data : FnScope ["data", "waiting", "found", "one", "depth", "k"] ["data"] (defScope s_write_data) := ⟨rfl, rfl, rfl, by decide +kernel, rfl, by decide +kernel, by decide +kernel⟩
theorem sc_read_whole : FnScope ["text", "body", "sign"] ["text"] (defScope s_read_whole) := ⟨rfl, rfl, rfl, by decide +kernel, rfl, by decide +kernel, by decide +kernel⟩
theorem sc_pieces_of : FnScope ["text", "found", "start", "place", "sign"] ["text"] (defScope s_pieces_of) := ⟨rfl, rfl, rfl, by decide +kernel, rfl, by decide +kernel, by decide +kernel⟩
theorem sc_DataReader___init__ : FnScope ["self"] ["self"] (defScope s_DataReader___init__) := ⟨rfl, rfl, rfl, by decide +kernel, rfl, by decide +kernel, by decide +kernel⟩
theorem sc_DataReader_item : FnScope ["self", "value"] ["self", "value"] (defScope s_DataReader_item) := ⟨rfl, rfl, rfl, by decide +kernel, rfl, by decide +kernel, by decide +kernel⟩
theorem sc_DataReader_open_one : FnScope ["self"] ["self"] (defScope s_DataReader_open_one) := ⟨rfl, rfl, rfl, by decide +kernel, rfl, by decide +kernel, by decide +kernel⟩
theorem sc_DataReader_close_one : FnScope ["self", "found"] ["self"] (defScope s_DataReader_close_one) := ⟨rfl, rfl, rfl, by decide +kernel, rfl, by decide +kernel, by decide +kernel⟩
theorem sc_DataReader_comma : FnScope ["self"] ["self"] (defScope s_DataReader_comma) := ⟨rfl, rfl, rfl, by decide +kernel, rfl, by decide +kernel, by decide +kernel⟩
theorem sc_DataReader_take : FnScope ["self", "piece"] ["self", "piece"] (defScope s_DataReader_take) := ⟨rfl, rfl, rfl, by decide +kernel, rfl, by decide +kernel, by decide +kernel⟩
theorem sc_read_data : FnScope ["text", "reader", "piece"] ["text"] (defScope s_read_data) := ⟨rfl, rfl, rfl, by decide +kernel, rfl, by decide +kernel, by decide +kernel⟩
theorem sc_Reply___init__ : FnScope ["self", "kind", "text", "data"] ["self", "kind", "text", "data"] (defScope s_Reply___init__) := ⟨rfl, rfl, rfl, by decide +kernel, rfl, by decide +kernel, by decide +kernel⟩
theorem sc_Reply___eq__ : FnScope ["self", "other"] ["self", "other"] (defScope s_Reply___eq__) := ⟨rfl, rfl, rfl, by decide +kernel, rfl, by decide +kernel, by decide +kernel⟩
theorem sc_is_text : FnScope ["value"] ["value"] (defScope s_is_text) := ⟨rfl, rfl, rfl, by decide +kernel, rfl, by decide +kernel, by decide +kernel⟩
theorem sc_write_diary : FnScope ["entries", "found", "entry", "reply", "lines", "line"] ["entries"] (defScope s_write_diary) := ⟨rfl, rfl, rfl, by decide +kernel, rfl, by decide +kernel, by decide +kernel⟩
theorem sc_read_part : FnScope ["line", "k", "rest", "data", "kind", "blank", "text"] ["line", "k"] (defScope s_read_part) := ⟨rfl, rfl, rfl, by decide +kernel, rfl, by decide +kernel, by decide +kernel⟩
theorem sc_read_diary : FnScope ["text", "lines", "parts", "at", "t"] ["text"] (defScope s_read_diary) := ⟨rfl, rfl, rfl, by decide +kernel, rfl, by decide +kernel, by decide +kernel⟩
theorem sc__law_draw : FnScope ["script", "seed", "cell"] ["script"] (defScope s__law_draw) := ⟨rfl, rfl, rfl, by decide +kernel, rfl, by decide +kernel, by decide +kernel⟩
theorem sc__law_take : FnScope ["draw", "many", "found"] ["draw", "many"] (defScope s__law_take) := ⟨rfl, rfl, rfl, by decide +kernel, rfl, by decide +kernel, by decide +kernel⟩
theorem sc__law_data : FnScope ["draw", "deep", "turn"] ["draw", "deep"] (defScope s__law_data) := ⟨rfl, rfl, rfl, by decide +kernel, rfl, by decide +kernel, by decide +kernel⟩
theorem sc__law_is_word : FnScope ["value", "small", "sign"] ["value"] (defScope s__law_is_word) := ⟨rfl, rfl, rfl, by decide +kernel, rfl, by decide +kernel, by decide +kernel⟩
theorem sc__law_read : FnScope ["text"] ["text"] (defScope s__law_read) := ⟨rfl, rfl, rfl, by decide +kernel, rfl, by decide +kernel, by decide +kernel⟩
theorem sc__law_due : FnScope ["text", "rows", "found", "part", "k", "row", "turn", "kind", "blank", "rest", "data"] ["text"] (defScope s__law_due) := ⟨rfl, rfl, rfl, by decide +kernel, rfl, by decide +kernel, by decide +kernel⟩
theorem sc__law_told : FnScope ["which", "value", "fault"] ["which", "value"] (defScope s__law_told) := ⟨rfl, rfl, rfl, by decide +kernel, rfl, by decide +kernel, by decide +kernel⟩
theorem sc__law_fits : FnScope ["told", "due", "k"] ["told", "due"] (defScope s__law_fits) := ⟨rfl, rfl, rfl, by decide +kernel, rfl, by decide +kernel, by decide +kernel⟩
theorem sc_law : FnScope ["script", "draw", "turn", "good", "bads", "entries", "text", "k", "held", "again", "line", "kind", "more", "data", "i", "sign", "other", "value", "bad"] ["script"] (defScope s_law) := ⟨rfl, rfl, rfl, by decide +kernel, rfl, by decide +kernel, by decide +kernel⟩
def d_is_whole : He.DefD := ⟨("is_whole", none), "is_whole", "is_whole", defArgs s_is_whole, defBody s_is_whole, defScope s_is_whole, [], []⟩
def d_same : He.DefD := ⟨("same", none), "same", "same", defArgs s_same, defBody s_same, defScope s_same, [], []⟩
def d_is_word : He.DefD := ⟨("is_word", none), "is_word", "is_word", defArgs s_is_word, defBody s_is_word, defScope s_is_word, [], []⟩
def d_is_short : He.DefD := ⟨("is_short", none), "is_short", "is_short", defArgs s_is_short, defBody s_is_short, defScope s_is_short, [], []⟩
def d_write_data : He.DefD := ⟨("write_data", none), "write_data", "write_data", defArgs s_write_data, defBody s_write_data, defScope s_write_data, [], []⟩
def d_read_whole : He.DefD := ⟨("read_whole", none), "read_whole", "read_whole", defArgs s_read_whole, defBody s_read_whole, defScope s_read_whole, [], []⟩
def d_pieces_of : He.DefD := ⟨("pieces_of", none), "pieces_of", "pieces_of", defArgs s_pieces_of, defBody s_pieces_of, defScope s_pieces_of, [], []⟩
def d_DataReader___init__ : He.DefD := ⟨("DataReader", some "__init__"), "__init__", "DataReader.__init__", defArgs s_DataReader___init__, defBody s_DataReader___init__, defScope s_DataReader___init__, [], []⟩
def d_DataReader_item : He.DefD := ⟨("DataReader", some "item"), "item", "DataReader.item", defArgs s_DataReader_item, defBody s_DataReader_item, defScope s_DataReader_item, [], []⟩
def d_DataReader_open_one : He.DefD := ⟨("DataReader", some "open_one"), "open_one", "DataReader.open_one", defArgs s_DataReader_open_one, defBody s_DataReader_open_one, defScope s_DataReader_open_one, [], []⟩
def d_DataReader_close_one : He.DefD := ⟨("DataReader", some "close_one"), "close_one", "DataReader.close_one", defArgs s_DataReader_close_one, defBody s_DataReader_close_one, defScope s_DataReader_close_one, [], []⟩
def d_DataReader_comma : He.DefD := ⟨("DataReader", some "comma"), "comma", "DataReader.comma", defArgs s_DataReader_comma, defBody s_DataReader_comma, defScope s_DataReader_comma, [], []⟩
def d_DataReader_take : He.DefD := ⟨("DataReader", some "take"), "take", "DataReader.take", defArgs s_DataReader_take, defBody s_DataReader_take, defScope s_DataReader_take, [], []⟩
def d_read_data : He.DefD := ⟨("read_data", none), "read_data", "read_data", defArgs s_read_data, defBody s_read_data, defScope s_read_data, [], []⟩
def d_Reply___init__ : He.DefD := ⟨("Reply", some "__init__"), "__init__", "Reply.__init__", defArgs s_Reply___init__, defBody s_Reply___init__, defScope s_Reply___init__, [.str "", .adr dflR], []⟩
def d_Reply___eq__ : He.DefD := ⟨("Reply", some "__eq__"), "__eq__", "Reply.__eq__", defArgs s_Reply___eq__, defBody s_Reply___eq__, defScope s_Reply___eq__, [], []⟩
def d_is_text : He.DefD := ⟨("is_text", none), "is_text", "is_text", defArgs s_is_text, defBody s_is_text, defScope s_is_text, [], []⟩
def d_write_diary : He.DefD := ⟨("write_diary", none), "write_diary", "write_diary", defArgs s_write_diary, defBody s_write_diary, defScope s_write_diary, [], []⟩
def d_read_part : He.DefD := ⟨("read_part", none), "read_part", "read_part", defArgs s_read_part, defBody s_read_part, defScope s_read_part, [], []⟩
def d_read_diary : He.DefD := ⟨("read_diary", none), "read_diary", "read_diary", defArgs s_read_diary, defBody s_read_diary, defScope s_read_diary, [], []⟩
def d__law_draw : He.DefD := ⟨("_law_draw", none), "_law_draw", "_law_draw", defArgs s__law_draw, defBody s__law_draw, defScope s__law_draw, [], []⟩
def d__law_take : He.DefD := ⟨("_law_take", none), "_law_take", "_law_take", defArgs s__law_take, defBody s__law_take, defScope s__law_take, [], []⟩
def d__law_data : He.DefD := ⟨("_law_data", none), "_law_data", "_law_data", defArgs s__law_data, defBody s__law_data, defScope s__law_data, [], []⟩
def d__law_is_word : He.DefD := ⟨("_law_is_word", none), "_law_is_word", "_law_is_word", defArgs s__law_is_word, defBody s__law_is_word, defScope s__law_is_word, [], []⟩
def d__law_read : He.DefD := ⟨("_law_read", none), "_law_read", "_law_read", defArgs s__law_read, defBody s__law_read, defScope s__law_read, [], []⟩
def d__law_due : He.DefD := ⟨("_law_due", none), "_law_due", "_law_due", defArgs s__law_due, defBody s__law_due, defScope s__law_due, [], []⟩
def d__law_told : He.DefD := ⟨("_law_told", none), "_law_told", "_law_told", defArgs s__law_told, defBody s__law_told, defScope s__law_told, [], []⟩
def d__law_fits : He.DefD := ⟨("_law_fits", none), "_law_fits", "_law_fits", defArgs s__law_fits, defBody s__law_fits, defScope s__law_fits, [], []⟩
def d_law : He.DefD := ⟨("law", none), "law", "law", defArgs s_law, defBody s_law, defScope s_law, [], []⟩
def fn : List He.DefD := [d_is_whole, d_same, d_is_word, d_is_short, d_write_data, d_read_whole, d_pieces_of, d_DataReader___init__, d_DataReader_item, d_DataReader_open_one, d_DataReader_close_one, d_DataReader_comma, d_DataReader_take, d_read_data, d_Reply___init__, d_Reply___eq__, d_is_text, d_write_diary, d_read_part, d_read_diary, d__law_draw, d__law_take, d__law_data, d__law_is_word, d__law_read, d__law_due, d__law_told, d__law_fits, d_law]
def fa : List He.Fa := [.free "isinstance",
  .free "bool",
  .free "int",
  .free "len",
  .free "tuple",
  .free "list",
  .free "zip",
  .free "all",
  .str "DIGITS" "0123456789",
  .str "LETTERS" "abcdefghijklmnopqrstuvwxyz",
  .int "MOST_WORD" 12,
  .free "str",
  .glo "is_whole",
  .free "range",
  .int "MOST_DIGITS" 4000,
  .int "MOST_DEPTH" 1000,
  .glo "is_short",
  .glo "is_word",
  .exc "Malformed",
  .glo "Malformed",
  .free "enumerate",
  .cls "DataReader",
  .meth "DataReader" "item",
  .meth "DataReader" "open_one",
  .meth "DataReader" "close_one",
  .meth "DataReader" "comma",
  .glo "read_whole",
  .glo "DataReader",
  .mkr "DataReader",
  .glo "pieces_of",
  .meth "DataReader" "take",
  .glo "same",
  .glo "Reply",
  .glo "is_text",
  .glo "write_data",
  .glo "MARKS",
  .glo "read_data",
  .mkr "Reply",
  .glo "read_part",
  .free "abs",
  .glo "_law_take",
  .glo "_law_data",
  .glo "_law_is_word",
  .glo "_law_read",
  .glo "write_diary",
  .glo "read_diary",
  .glo "_law_told",
  .glo "_law_draw",
  .glo "_law_fits",
  .glo "_law_due",
  .free "any",
  .noat "DataReader" "tuples",
  .noat "DataReader" "ready",
  .noat "DataReader" "told",
  .exm "Malformed" "Malformed" true,
  .noat "Reply" "kind",
  .noat "Reply" "text",
  .noat "Reply" "data",
  .meth "Reply" "__eq__",
  .cls "Reply",
  .glo "law"]
end WW

set_option maxHeartbeats 4000000
namespace WW
open PySem PySem.Spec PyProof.Rows L2
/-! ### signs -/
def isLow (c : Nat) : Bool := decide (97 ≤ c) && decide (c ≤ 122)
def isDig (c : Nat) : Bool := decide (48 ≤ c) && decide (c ≤ 57)
def isBrk (c : Nat) : Bool := c == 91 || c == 93 || c == 44
theorem low_lit : (Str.ofString "abcdefghijklmnopqrstuvwxyz").cps.toList = [97,98,99,100,101,102,103,104,105,106,107,108,109,110,111,112,113,114,115,116,117,118,119,120,121,122] := by decide +kernel
theorem dig_lit : (Str.ofString "0123456789").cps.toList = [48,49,50,51,52,53,54,55,56,57] := by decide +kernel
theorem brk_lit : (Str.ofString "[],").cps.toList = [91, 93, 44] := by decide +kernel
theorem brk4_lit : (Str.ofString "[],;").cps.toList = [91, 93, 44, 59] := by decide +kernel
theorem in_low (c : Nat) : decide (c ∈ (Str.ofString "abcdefghijklmnopqrstuvwxyz").cps.toList) = isLow c := by
  rw [low_lit, Bool.eq_iff_iff]
  simp only [List.mem_cons, List.not_mem_nil, or_false, decide_eq_true_eq, isLow, Bool.and_eq_true]
  omega
theorem in_dig (c : Nat) : decide (c ∈ (Str.ofString "0123456789").cps.toList) = isDig c := by
  rw [dig_lit, Bool.eq_iff_iff]
  simp only [List.mem_cons, List.not_mem_nil, or_false, decide_eq_true_eq, isDig, Bool.and_eq_true]
  omega
theorem in_brk (c : Nat) : decide (c ∈ (Str.ofString "[],").cps.toList) = isBrk c := by
  rw [brk_lit, Bool.eq_iff_iff]
  simp only [List.mem_cons, List.not_mem_nil, or_false, decide_eq_true_eq, isBrk, Bool.or_eq_true, beq_iff_eq]
  omega
theorem in_brk4 (c : Nat) : decide (c ∈ (Str.ofString "[],;").cps.toList) = (isBrk c || c == 59) := by
  rw [brk4_lit, Bool.eq_iff_iff]
  simp only [List.mem_cons, List.not_mem_nil, or_false, decide_eq_true_eq, isBrk, Bool.or_eq_true, beq_iff_eq]
  omega
theorem mem_low (c : Nat) : (c ∈ (Str.ofString "abcdefghijklmnopqrstuvwxyz").cps.toList) = (isLow c = true) := propext (by rw [← in_low, decide_eq_true_eq])
theorem mem_dig (c : Nat) : (c ∈ (Str.ofString "0123456789").cps.toList) = (isDig c = true) := propext (by rw [← in_dig, decide_eq_true_eq])
theorem mem_brk (c : Nat) : (c ∈ (Str.ofString "[],").cps.toList) = (isBrk c = true) := propext (by rw [← in_brk, decide_eq_true_eq])
theorem mem_brk4 (c : Nat) : (c ∈ (Str.ofString "[],;").cps.toList) = ((isBrk c || c == 59) = true) := propext (by rw [← in_brk4, decide_eq_true_eq])
theorem sgn_inj (a b : Nat) : ((⟨#[a]⟩ : Str) = ⟨#[b]⟩) = (a = b) := propext ⟨fun h => by injection h with h; simpa using h, fun h => by rw [h]⟩
/-- a text of codes -/
def S (l : List Nat) : Str := ⟨l.toArray⟩
theorem S_tl (z : Str) : S z.cps.toList = z := rfl
theorem tl_S (l : List Nat) : (S l).cps.toList = l := rfl
theorem S_inj {l m : List Nat} : S l = S m ↔ l = m := ⟨fun h => by have := congrArg (fun z : Str => z.cps.toList) h; simpa [S] using this, fun h => by rw [h]⟩
theorem len_S (l : List Nat) : (S l).length = l.length := rfl
theorem len_str (z : Str) : z.length = z.cps.toList.length := rfl
theorem str_ext {y z : Str} (h : y.cps.toList = z.cps.toList) : y = z := TL.ext_tl h
theorem S_app (l m : List Nat) : S l ++ S m = S (l ++ m) := str_ext (by show TL.tl (S l ++ S m) = _; rw [TL.tl_append]; rfl)
/-! ### words and small numbers -/
def wordL (l : List Nat) : Bool := decide (1 ≤ l.length) && decide (l.length ≤ 12) && (match l with | c :: _ => isLow c | [] => false) && l.all fun c => isLow c || isDig c
def wordD : PyData → Bool
  | .str z => wordL z.cps.toList
  | _ => false
def bigP (n : Nat) : Int := (10 ^ 32) ^ n
def shortI (i : Int) : Bool := decide (-(bigP 125) < i) && decide (i < bigP 125)
def shortD : PyData → Bool
  | .int i => shortI i
  | _ => false
theorem bigP_succ (n : Nat) : bigP (n + 1) = bigP n * 10 ^ 32 := Int.pow_succ ..
theorem bigP_pos (n : Nat) : 0 < bigP n := Int.pow_pos (by decide)
theorem bigP_mono {m n : Nat} (h : m ≤ n) : bigP m ≤ bigP n := by
  induction n with
  | zero => have : m = 0 := by omega
            subst this; exact Int.le_refl _
  | succ n ih =>
    by_cases e : m = n + 1
    · subst e; exact Int.le_refl _
    · refine Int.le_trans (ih (by omega)) ?_
      rw [bigP_succ]
      have := bigP_pos n
      generalize bigP n = x at *
      omega
theorem bigP_bits (n : Nat) : (bigP n).natAbs < 2 ^ (107 * n + 1) := by
  induction n with
  | zero => decide
  | succ n ih =>
    rw [bigP_succ, Int.natAbs_mul]
    have e : 2 ^ (107 * (n + 1) + 1) = 2 ^ (107 * n + 1) * 2 ^ 107 := by rw [← Nat.pow_add]; congr 1
    rw [e]
    exact Nat.mul_lt_mul'' ih (by decide)
/-! ### data as it stands, kept -/
/-- no list, no dict within -/
def imm : PyData → Bool
  | .tuple ds => immAll ds
  | .list _ => false
  | .dict _ => false
  | _ => true
where immAll : List PyData → Bool
  | [] => true
  | d :: ds => imm d && immAll ds
/-- tuples are kept -/
def Tx (H H' : Hp) : Prop := ∀ a xs, (H a = some (.tup xs) → H' a = some (.tup xs)) ∧ ∀ o, H a = some (.frz o (.tup xs)) → H' a = some (.frz o (.tup xs))
theorem Tx.refl (H : Hp) : Tx H H := fun _ _ => ⟨fun h => h, fun _ h => h⟩
theorem Tx.trans {H H1 H2 : Hp} (a : Tx H H1) (b : Tx H1 H2) : Tx H H2 := fun p xs => ⟨fun h => (b p xs).1 ((a p xs).1 h), fun o h => (b p xs).2 o ((a p xs).2 o h)⟩
theorem Tx.of {H H' : Hp} (s : Same H H') : Tx H H' := fun p xs => ⟨fun h => s _ _ h, fun _ h => s _ _ h⟩
/-- what is no tuple -/
def noTup : HO → Prop
  | .tup _ => False
  | .frz _ (.tup _) => False
  | _ => True
theorem Tx.up {H : Hp} {p : Addr} {o u : HO} (h : H p = some o) (n : noTup o) : Tx H (upd H p u) := fun a xs => by
  refine ⟨fun e => ?_, fun o' e => ?_⟩
  · rw [upd_ne]
    · exact e
    · rintro rfl
      rw [h] at e
      cases e
      exact n
  · rw [upd_ne]
    · exact e
    · rintro rfl
      rw [h] at e
      cases e
      exact n
theorem Tx.nw {H : Hp} {p : Addr} {u : HO} (h : H p = none) : Tx H (upd H p u) := fun a xs => by
  refine ⟨fun e => ?_, fun o' e => ?_⟩ <;> (rw [upd_ne (ne_of_none e h)]; exact e)
theorem Tx.sqt {K : PySem.W.Frag} {H H' : Hp} {a : Addr} {xs : List V} (t : Tx H H') (h : SqT K H a xs) : SqT K H' a xs := by
  rcases h with (h | ⟨o, h⟩) | h
  · exact .inl (.inl ((t a xs).1 h))
  · exact .inl (.inr ⟨o, (t a xs).2 o h⟩)
  · exact .inr h
section
variable {K : PySem.W.Frag} {H H' : Hp}
mutual
theorem Dp.tx (t : Tx H H') : ∀ (d : PyData) (v : V), imm d = true → Dp K H v d → Dp K H' v d
  | .none, _, _, h => by cases h; exact .non
  | .bool _, _, _, h => by cases h; exact .bl _
  | .int _, _, _, h => by cases h; exact .int _
  | .str _, _, _, h => by cases h; exact .str _
  | .list _, _, i, _ => by simp [imm] at i
  | .dict _, _, i, _ => by simp [imm] at i
  | .tuple ds, _, i, h => by
    cases h with
    | tup h1 h2 => exact .tup (t.sqt h1) (Dp.txs t ds _ (by simpa [imm] using i) h2)
theorem Dp.txs (t : Tx H H') : ∀ (ds : List PyData) (vs : List V), imm.immAll ds = true → DpAll K H vs ds → DpAll K H' vs ds
  | [], _, _, h => by cases h; exact .nil
  | d :: ds, _, i, h => by
    cases h with
    | cons h1 h2 =>
      obtain ⟨i1, i2⟩ := Bool.and_eq_true_iff.mp (show (imm d && imm.immAll ds) = true by simpa [imm.immAll] using i)
      exact .cons (Dp.tx t d _ i1 h1) (Dp.txs t ds _ i2 h2)
end
mutual
theorem Dp.sm (t : Same H H') : ∀ (d : PyData) (v : V), Dp K H v d → Dp K H' v d
  | .none, _, h => by cases h; exact .non
  | .bool _, _, h => by cases h; exact .bl _
  | .int _, _, h => by cases h; exact .int _
  | .str _, _, h => by cases h; exact .str _
  | .list ds, _, h => by
    cases h with
    | lst h1 h2 => exact .lst (t.seq h1) (Dp.sms t ds _ h2)
  | .dict _, _, h => by cases h
  | .tuple ds, _, h => by
    cases h with
    | tup h1 h2 => exact .tup ((Tx.of t).sqt h1) (Dp.sms t ds _ h2)
theorem Dp.sms (t : Same H H') : ∀ (ds : List PyData) (vs : List V), DpAll K H vs ds → DpAll K H' vs ds
  | [], _, h => by cases h; exact .nil
  | d :: ds, _, h => by
    cases h with
    | cons h1 h2 => exact .cons (Dp.sm t d _ h1) (Dp.sms t ds _ h2)
end
theorem DpAll.length {vs : List V} {ds : List PyData} (h : DpAll K H vs ds) : vs.length = ds.length := by
  induction ds generalizing vs with
  | nil => cases h; rfl
  | cons d ds ih => cases h with
    | cons _ h2 => simp [ih h2]
theorem DpAll.get {vs : List V} {ds : List PyData} (h : DpAll K H vs ds) {i : Nat} {v : V} (e : vs[i]? = some v) : ∃ d, ds[i]? = some d ∧ Dp K H v d := by
  induction ds generalizing vs i with
  | nil => cases h; simp at e
  | cons d ds ih => cases h with
    | cons h1 h2 =>
      cases i with
      | zero => simp at e; subst e; exact ⟨d, rfl, h1⟩
      | succ i => exact ih h2 (by simpa using e)
theorem DpAll.app {vs us : List V} {ds es : List PyData} (h : DpAll K H vs ds) (g : DpAll K H us es) : DpAll K H (vs ++ us) (ds ++ es) := by
  induction ds generalizing vs with
  | nil => cases h; exact g
  | cons d ds ih => cases h with
    | cons h1 h2 => exact .cons h1 (ih h2)
theorem immAll_app (ds es : List PyData) : imm.immAll (ds ++ es) = (imm.immAll ds && imm.immAll es) := by
  induction ds with
  | nil => simp [imm.immAll]
  | cons d ds ih => simp [imm.immAll, ih, Bool.and_assoc]
end
theorem Same.new {H : Hp} {p : Addr} {o : HO} (h : H p = none) : Same H (upd H p o) := fun b u e => by rw [upd_ne (ne_of_none e h)]; exact e
/-- what H does not know may change -/
theorem Same.mut {H H' : Hp} {p : Addr} {o : HO} (s : Same H H') (h : H p = none) : Same H (upd H' p o) := fun b u e => by rw [upd_ne (ne_of_none e h)]; exact s b u e
theorem Same.none {H H' : Hp} {p : Addr} (s : Same H H') (h : H' p = Option.none) : H p = Option.none := s.free h
/-- all([f(c) for c in a text]), the element read without a change -/
theorem lc_str {z : Str} {f : Nat → V} {te : TE} {vs : List Nat} {σ : L2.St} {H1 : Hp} {D : Addr} {Qd : Hp → Prop} {j : Nat} (hz : z.length ≤ 1000000)
    (hw : ∀ x, wipe ((wipe σ vs).set j (some x)) vs = wipe σ vs)
    (he : ∀ c H (R : VK), R (f c) H → te ((wipe σ vs).set j (some (.str ⟨#[c]⟩))) H R)
    (hq : Qd (upd H1 D (.lst (z.cps.toList.map f)))) :
    ∃ W : Nat → Nat → Hp → Prop, (∃ m, W 0 m (upd H1 D (.lst []))) ∧ ∀ i m H, W i m H →
      ((Its z).stop i H ∧ Qd H) ∨ ((Its z).go i H ∧ ∃ Nx : Hp → Prop, (∀ H', Nx H' → ∃ m', m' < m ∧ W (i + 1) m' H') ∧ ∀ x H', (Its z).yld i H x H' → gName j x (wipe σ vs) H' fun σ2 H2 => wipe σ2 vs = wipe σ vs ∧ tYes σ2 H2 fun b H3 =>
        if b = true then te σ2 H3 fun y H4 => ∃ acc, H4 D = some (.lst acc) ∧ acc.length < sizeLine ∧ Nx (upd H4 D (.lst (acc ++ [y]))) else Nx H3) := by
  refine lc_it (walk_str (z := z)) (fun i H => H = upd H1 D (.lst ((z.cps.toList.map f).take i))) (by rw [List.take_zero]) (fun _ _ _ _ => trivial) ?_ ?_
  · rintro i x H H' hi rfl ⟨rfl, c, hc, rfl⟩
    refine ⟨hw _, ?_⟩
    show te ((wipe σ vs).set j (some (.str ⟨#[c]⟩))) _ _
    refine he c _ _ ⟨_, upd_same, ?_, ?_⟩
    · rw [List.length_take, List.length_map, sizeLine_eq]
      have : z.cps.toList.length = z.length := rfl
      omega
    · rw [upd_upd]
      congr 2
      have e : (z.cps.toList.map f)[i]? = some (f c) := by
        rw [List.getElem?_map]
        have : z.cps.toList[i]? = some c := by simpa using hc
        rw [this]
        rfl
      rw [List.take_succ, e]
      rfl
  · rintro H rfl
    have e : (z.cps.toList.map f).take z.cps.size = z.cps.toList.map f := List.take_of_length_le (by simp)
    rw [e]
    exact hq
theorem tLc_str {z : Str} {f : Nat → V} {ta te : TE} {vs : List Nat} {σ : L2.St} {H : Hp} {Q : VK} {j : Nat} (hz : z.length ≤ 1000000) (hta : ∀ R : VK, R (.str z) H → ta σ H R)
    (hw : ∀ x, wipe ((wipe σ vs).set j (some x)) vs = wipe σ vs)
    (he : ∀ c H (R : VK), R (f c) H → te ((wipe σ vs).set j (some (.str ⟨#[c]⟩))) H R)
    (hq : ∀ D, H D = none → Q (.ref D) (upd H D (.lst (z.cps.toList.map f)))) : tLc (iStr ta) (gName j) tYes te vs σ H Q :=
  hta _ ⟨z, rfl, fun D hD => lc_str (Qd := fun H' => Q (.ref D) H') hz hw he (hq D hD)⟩
/-! ### loops, folded -/
theorem tFor_of {J : It} {n : Nat} {G : Hp → Prop} {Y : Nat → Hp → V → Hp → Prop} {wi : TI} {g : TG} {tb : TS} {D : Ends} {σ : L2.St} {H H1 : Hp} (wk : Walk J n G Y) (hwi : ∀ R : It → Hp → Prop, R J H1 → wi σ H R) (Pv : Nat → L2.St → Hp → Prop) (h0 : Pv 0 σ H1)
    (hG : ∀ i σ H, i ≤ n → Pv i σ H → G H) (hs : ∀ i x σ H H', i < n → Pv i σ H → Y i H x H' → g x σ H' fun σ2 H2 => tb { D with nx := Pv (i + 1), ct := Pv (i + 1), bk := D.nx } σ2 H2) (hd : ∀ σ H, Pv n σ H → D.nx σ H) : tFor wi g tb D σ H :=
  hwi _ (for_it wk Pv h0 hG hs hd)
theorem tLc_of {J : It} {n : Nat} {G : Hp → Prop} {Y : Nat → Hp → V → Hp → Prop} {wi : TI} {g : TG} {tt : TT} {te : TE} {vs : List Nat} {σ : L2.St} {H H1 : Hp} {Q : VK} (wk : Walk J n G Y) (hwi : ∀ R : It → Hp → Prop, R J H1 → wi σ H R) (Pv : Addr → Nat → Hp → Prop)
    (h0 : ∀ D, H1 D = none → Pv D 0 (upd H1 D (.lst []))) (hG : ∀ D i H, i ≤ n → Pv D i H → G H)
    (hs : ∀ D i x H H', i < n → Pv D i H → Y i H x H' → g x (wipe σ vs) H' fun σ2 H2 => wipe σ2 vs = wipe σ vs ∧ tt σ2 H2 fun b H3 =>
      if b = true then te σ2 H3 fun y H4 => ∃ acc, H4 D = some (.lst acc) ∧ acc.length < sizeLine ∧ Pv D (i + 1) (upd H4 D (.lst (acc ++ [y]))) else Pv D (i + 1) H3) (hd : ∀ D H, Pv D n H → Q (.ref D) H) : tLc wi g tt te vs σ H Q :=
  hwi _ fun D hD => lc_it wk (Pv D) (h0 D hD) (hG D) (hs D) (hd D)
theorem cut_tl (z : Str) (lo hi : Option Int) : (cutS z lo hi).cps.toList = (z.cps.toList.drop (HT.sIx z.length 0 lo)).take (HT.sIx z.length z.length hi - HT.sIx z.length 0 lo) := rfl
theorem cut_to (z : Str) (n : Nat) : (cutS z none (some (n : Int))) = S (z.cps.toList.take n) := by
  apply str_ext
  rw [cut_tl, HT.sIx_none, HT.sIx_nat, List.drop_zero, Nat.sub_zero, tl_S]
  have e : z.length = z.cps.toList.length := rfl
  rw [e, List.take_eq_take_iff]
  omega
theorem cut_from (z : Str) (n : Nat) : (cutS z (some (n : Int)) none) = S (z.cps.toList.drop n) := by
  apply str_ext
  rw [cut_tl, HT.sIx_none, HT.sIx_nat, tl_S]
  have e : z.length = z.cps.toList.length := rfl
  rw [e]
  by_cases h : n ≤ z.cps.toList.length
  · rw [Nat.min_eq_left h]
    exact List.take_of_length_le (by rw [List.length_drop]; exact Nat.le_refl _)
  · rw [Nat.min_eq_right (by omega), List.drop_of_length_le (Nat.le_refl _), List.drop_of_length_le (by omega)]
    simp
theorem cut_mid (z : Str) (m n : Nat) (hm : m ≤ n) (hn : n ≤ z.length) : (cutS z (some (m : Int)) (some (n : Int))) = S ((z.cps.toList.drop m).take (n - m)) := by
  apply str_ext
  rw [cut_tl, HT.sIx_nat, HT.sIx_nat, tl_S, Nat.min_eq_left hn, Nat.min_eq_left (Nat.le_trans hm hn)]
end WW

set_option maxHeartbeats 4000000
namespace WW
open PySem PySem.Spec PyProof.Rows L2
local macro_rules | `(tactic| walk_at "x") => `(tactic| simp only [tSeq, tNext, tAsg, gName, tRet, tRetN, tIfS, tOp, tUn, rI, rI0, rU, tTest, tB, tAnd, tOr, tNot, tAndV, tOrV, tNotV, tIf, tCons, tNil, tTup, tLst, tCall, tCallS, tMeth, tMake, tFld, sFld, tBM, tBM0, tCB, tSl, tPart, tNoPart, tDrop, tPar, tPar3, tAug, ipI, gTup, gCons, gNil, gSub, rSetL, rAppend, rPop, rIxL, rIxS, rIxT, rEq, rNe, tChain, tNever, tThen, tVar, tC, L2.start, List.map_cons, List.map_nil, List.length_cons, List.length_nil, List.replicate_succ, List.replicate_zero, List.append_nil, List.nil_append, List.cons_append, Nat.reduceAdd, Nat.reduceSub, Nat.add_zero, Nat.zero_add, Nat.sub_zero, Nat.sub_self,
  List.getElem?_cons_zero, List.getElem?_cons_succ, Option.some.injEq, exists_eq_left', exists_eq_left, exists_eq', exists_eq, exists_and_left, List.set_cons_zero, List.set_cons_succ, V.int.injEq, V.bl.injEq, V.str.injEq, V.ref.injEq, V.ty.injEq, List.cons.injEq, and_true, true_and, and_assoc, if_true, if_false, Bool.false_eq_true, reduceCtorEq, false_and, and_false, exists_false, false_or, or_false, Bool.not_true, Bool.not_false, decide_eq_true_eq, ite_true, ite_false, WE, cxOf_K, cxOf_mg, rSlS, scal, wipe, mem_low, mem_dig, mem_brk, mem_brk4, sgn_inj, Bool.decide_eq_true])

def spIsWhole (K : PySem.W.Frag) : Sp := fun vs H Q _ => ∃ x d, vs = [x] ∧ Dp K H x d ∧ Q (.bl (isa d "int" && !isa d "bool")) H
def spIsWord (K : PySem.W.Frag) : Sp := fun vs H Q _ => ∃ x d, vs = [x] ∧ Dp K H x d ∧ (∀ z, x = .str z → z.length ≤ 1000000) ∧ ∀ H', Same H H' → Q (.bl (wordD d)) H'
section
variable {P : Program} {w : World} {K : PySem.W.Frag} {mg : Str → Option Value} {base : Heap}
theorem o_is_whole (W : Wd fa fn K mg) : OkF P w K mg base d_is_whole 1 ["value"] (spIsWhole K) := by
  refine okfN true W (d := d_is_whole) 0 sc_is_whole rfl rfl (fun _ _ _ _ _ _ us hl => match us, hl with | [_], _ => rfl) ?len (fun cdv A outer s H vs Q E hr nd hu tk bo h => ?body)
  case len =>
    rintro vs H Q E ⟨x, d, rfl, _⟩
    rfl
  case body =>
    have po := bo.po; refine ⟨_, (pss_one (ps_ret (pe_and (pe_callB call_isiV (by rfl) (W.free 0) (by decide +kernel) (pa_cons (pv 0) (pa_cons (pe_bltn (v := .ty "int") (u := .type "int") rfl (W.free 2) (by decide +kernel) rfl) pa_nil))) (pe_one (pe_not (pe_callB call_isiV (by rfl) (W.free 0) (by decide +kernel) (pa_cons (pv 0) (pa_cons (pe_bltn (v := .ty "bool") (u := .type "bool") rfl (W.free 1) (by decide +kernel) rfl) pa_nil)))))))), ?_⟩
    obtain ⟨x, d, rfl, hd, hq⟩ := h
    walk_at "x"
    simp only [rIsaV]
    walk_at "x"
    refine ⟨by decide, _, IsaV.of hd, ?_⟩
    cases h1 : isa d "int" with
    | false => rw [h1] at hq; exact iteF hq
    | true => rw [h1] at hq; exact iteT ⟨by decide, _, IsaV.of hd, hq⟩
theorem o_is_word (W : Wd fa fn K mg) : OkF P w K mg base d_is_word 1 ["value"] (spIsWord K) := by
  refine okfN true W (d := d_is_word) 2 sc_is_word rfl rfl (fun _ _ _ _ _ _ us hl => match us, hl with | [_], _ => rfl) ?len (fun cdv A outer s H vs Q E hr nd hu tk bo h => ?body)
  case len =>
    rintro vs H Q E ⟨x, d, rfl, _⟩
    rfl
  case body =>
    have po := bo.po; refine ⟨_, (pss_cons (ps_if (PW.pt (pw_or (pt_not (pt_val (pe_callB call_isiV (by rfl) (W.free 0) (by decide +kernel) (pa_cons (pv 0) (pa_cons (pe_bltn (v := .ty "str") (u := .type "str") rfl (W.free 11) (by decide +kernel) rfl) pa_nil))))) (pw_or (pt_not (pt_chain op_le op_le pe_int (pe_callB call_len (by rfl) (W.free 3) (by decide +kernel) (pa_cons (pv 0) pa_nil)) (C8.pe_gc rfl (W.intV 10)))) (pw_or1 (pt_cmpR op_notIn_sign (pe_ix ix_str (pv 0) pe_int (fun _ _ => rfl)) (C8.pe_gc rfl (W.strV 9)) (by rfl)))))) (pss_one (ps_ret pe_bl)) pss_nil)
    (pss_one (ps_ret (pe_callB (cr_all rfl) (by rfl) (W.free 7) (by decide +kernel) (pa_cons (pe_lc (own := [("sign", 1)]) (g := (gName 1)) (tt := tYes) rfl nd (pi_str (pv 0)) (blkOk_by (own := [("sign", 1)]) (N := ["value", "sign"]) (sc := defScope s_is_word) (by decide +kernel)) (fun _ _ _ _ _ => (pg_name (i := 1) nd rfl (by first | exact Or.inl rfl | exact Or.inr rfl))) (fun _ _ _ _ _ => pts_nil) (fun _ _ _ _ _ => (pe_or (pe_cmpR op_in_sign (pv 1) (C8.pe_gc rfl (W.strV 9)) (by rfl)) (pe_one (pe_cmpR op_in_sign (pv 1) (C8.pe_gc rfl (W.strV 8)) (by rfl)))))) pa_nil))))), ?_⟩
    obtain ⟨x, d, rfl, hd, hz, hq⟩ := h
    walk_at "x"
    simp only [rIsaV]
    walk_at "x"
    refine ⟨by decide, _, IsaV.of hd, ?_⟩
    cases hd with
    | str z =>
      have hz := hz z rfl
      simp only [wordD] at hq
      clear tk po bo
      have e1 : isa (.str z) "str" = true := rfl
      rw [e1]
      walk_at "x"
      refine ⟨z.length, ⟨by rw [sizeLine_eq]; omega, rfl⟩, ?_⟩
      have el : z.length = z.cps.toList.length := rfl
      have same0 := hq _ (Same.refl _)
      cases hl : z.cps.toList with
      | nil =>
        rw [hl, List.length_nil] at el
        rw [if_neg (by omega)]
        simpa [hl, wordL] using same0
      | cons c0 r =>
        rw [hl] at el same0
        have e2 : (((1 : Nat) : Int) ≤ (z.length : Int)) := by rw [el, List.length_cons]; omega
        rw [if_pos (by exact e2)]
        by_cases h12 : (z.length : Int) ≤ 12
        · rw [decide_eq_true h12]
          walk_at "x"
          refine ⟨by rw [sizeLine_eq]; omega, c0, atI_nat (j := 0) rfl, ?_⟩
          cases h0 : isLow c0 with
          | false =>
            refine iteT ?_
            simpa [wordL, h0] using same0
          | true =>
            refine iteF ?_
            refine tLc_str (f := fun c => .bl (isLow c || isDig c)) hz (fun R h => ⟨_, rfl, h⟩) (fun x => rfl) ?_ ?_
            · intro c H2 R hR
              walk_at "x"
              cases h1 : isLow c with
              | true => simpa [h1] using hR
              | false => refine iteF ?_; simpa [h1] using hR
            · intro D hD
              refine ⟨D, z.cps.toList.map fun c => isLow c || isDig c, rfl, SqL.of (by rw [upd_same, List.map_map]; rfl), ?_⟩
              have := hq _ (Same.new (o := .lst (z.cps.toList.map fun c => .bl (isLow c || isDig c))) hD)
              have e3 : wordL z.cps.toList = ((z.cps.toList.map fun c => isLow c || isDig c).all id) := by
                rw [hl]
                simp only [wordL, h0, List.length_cons, List.all_map]
                have a1 : decide (1 ≤ r.length + 1) = true := decide_eq_true (by omega)
                have a2 : decide (r.length + 1 ≤ 12) = true := decide_eq_true (by rw [el, List.length_cons] at h12; omega)
                rw [a1, a2]
                rfl
              rw [e3] at this
              exact this
        · rw [decide_eq_false h12]
          walk_at "x"
          have e4 : wordL (c0 :: r) = false := by
            have : decide ((c0 :: r).length ≤ 12) = false := decide_eq_false (by rw [← el]; omega)
            simp only [wordL, this, Bool.and_false, Bool.false_and]
          rw [e4] at same0
          exact same0
    | _ => exact iteT (hq _ (Same.refl _))
end
end WW

set_option maxHeartbeats 4000000
namespace WW
open PySem PySem.Spec PyProof.Rows L2
local macro_rules | `(tactic| walk_at "x") => `(tactic| simp only [tSeq, tNext, tAsg, gName, tRet, tRetN, tIfS, tOp, tUn, rI, rI0, rU, tTest, tB, tAnd, tOr, tNot, tAndV, tOrV, tNotV, tIf, tCons, tNil, tTup, tLst, tCall, tCallS, tMeth, tMake, tFld, sFld, tBM, tBM0, tCB, tSl, tPart, tNoPart, tDrop, tPar, tPar3, tAug, ipI, gTup, gCons, gNil, gSub, rSetL, rAppend, rPop, rIxL, rIxS, rIxT, rEq, rNe, tChain, tNever, tThen, tVar, tC, L2.start, List.map_cons, List.map_nil, List.length_cons, List.length_nil, List.replicate_succ, List.replicate_zero, List.append_nil, List.nil_append, List.cons_append, Nat.reduceAdd, Nat.reduceSub, Nat.add_zero, Nat.zero_add, Nat.sub_zero, Nat.sub_self,
  List.getElem?_cons_zero, List.getElem?_cons_succ, Option.some.injEq, exists_eq_left', exists_eq_left, exists_eq', exists_eq, exists_and_left, List.set_cons_zero, List.set_cons_succ, V.int.injEq, V.bl.injEq, V.str.injEq, V.ref.injEq, V.ty.injEq, List.cons.injEq, and_true, true_and, and_assoc, if_true, if_false, Bool.false_eq_true, reduceCtorEq, false_and, and_false, exists_false, false_or, or_false, Bool.not_true, Bool.not_false, decide_eq_true_eq, ite_true, ite_false, WE, cxOf_K, cxOf_mg, rSlS, scal, wipe, mem_low, mem_dig, mem_brk, mem_brk4, sgn_inj, Bool.decide_eq_true])

def spIsShort (K : PySem.W.Frag) : Sp := fun vs H Q _ => ∃ x d, vs = [x] ∧ Dp K H x d ∧ Q (.bl (shortD d)) H
section
variable {P : Program} {w : World} {K : PySem.W.Frag} {mg : Str → Option Value} {base : Heap}
theorem o_is_short (W : Wd fa fn K mg) : OkF P w K mg base d_is_short 2 ["value"] (spIsShort K) := by
  have o_is_whole := o_is_whole (P := P) (w := w) (base := base) W
  obtain ⟨fd_is_whole, F_is_whole, b_is_whole, k_is_whole⟩ := o_is_whole.ex
  refine okfN true W (d := d_is_short) 3 sc_is_short rfl rfl (fun _ _ _ _ _ _ us hl => match us, hl with | [_], _ => rfl) ?len (fun cdv A outer s H vs Q E hr nd hu tk bo h => ?body)
  case len =>
    rintro vs H Q E ⟨x, d, rfl, _⟩
    rfl
  case body =>
    have po := bo.po; refine ⟨_, (pss_cons (ps_if (pt_not (pt_val (by exact (pe_callS F_is_whole (hr.mono (by first | decide | omega)) rfl (W.glo 12) k_is_whole b_is_whole (fun σ => passAt tk σ) (by exact (pa_cons (pv 0) pa_nil)))))) (pss_one (ps_ret pe_bl)) pss_nil)
    (pss_cons (ps_set (i := 1) nd rfl (by first | exact Or.inl rfl | exact Or.inr rfl) (pe_op op_pow pe_int pe_int))
    (pss_cons (ps_if (pt_chain op_lt op_lt (pe_un un_neg (pv 1)) (pv 0) (pv 1)) (pss_one (ps_ret pe_bl)) pss_nil)
    (pss_cons (ps_for po rfl (pi_range1 rfl (W.free 13) (pa_cons (pe_op op_sub (pe_op op_fdiv (C8.pe_gc rfl (W.intV 14)) pe_int) pe_int) pa_nil)) (pg_name (i := 2) nd rfl (by first | exact Or.inl rfl | exact Or.inr rfl))
      (pss_one (ps_aug (i := 1) nd rfl (by first | exact Or.inl rfl | exact Or.inr rfl) (pe_op op_pow pe_int pe_int) iop_mulW)))
    (pss_one (ps_ret (pe_chain op_lt op_lt (pe_un un_neg (pv 1)) (pv 0) (pv 1)))))))), ?_⟩
    obtain ⟨x, d, rfl, hd, hq⟩ := h
    clear tk po bo
    walk_at "x"
    simp only [spIsWhole]
    walk_at "x"
    refine ⟨d, hd, ?_⟩
    cases hd with
    | int i =>
      have e0 : (isa (.int i) "int" && !isa (.int i) "bool") = true := rfl
      rw [e0]
      walk_at "x"
      refine ⟨⟨by decide, by decide, by decide⟩, ?_⟩
      have e1 : (10 : Int) ^ Int.toNat 32 = bigP 1 := by decide
      rw [e1]
      have fin : ∀ y : Option V, tRet (tChain (rI0 fun i j => V.bl (decide (i < j))) (rI0 fun i j => V.bl (decide (i < j))) (tUn (rU fun i => V.int (-i)) (tVar 1)) (tVar 0) (tVar 1)) { nx := fun _ H' => Q V.non H', rt := Q } [some (.int i), some (.int (bigP 125)), y] H := by
        intro y
        walk_at "x"
        simp only [shortD, shortI] at hq
        by_cases h : -bigP 125 < i
        · rw [if_pos h]
          rw [decide_eq_true h, Bool.true_and] at hq
          exact hq
        · rw [if_neg h]
          rw [decide_eq_false h, Bool.false_and] at hq
          exact hq
      have loop : tFor (iRng1 (tCons (tOp (rI0 fun i j => V.int (i - j)) (tOp (rI CDiv fun i j => V.int (i / j)) (tC (V.int 4000)) (tC (V.int 32))) (tC (V.int 1))) tNil)) (gName 2)
          (tAug 1 (tOp (rI CPow fun i j => V.int (i ^ j.toNat)) (tC (V.int 10)) (tC (V.int 32))) (rI CMulW fun i j => V.int (i * j)))
          { nx := tRet (tChain (rI0 fun i j => V.bl (decide (i < j))) (rI0 fun i j => V.bl (decide (i < j))) (tUn (rU fun i => V.int (-i)) (tVar 1)) (tVar 0) (tVar 1)) { nx := fun _ H' => Q V.non H', rt := Q }, rt := Q }
          [some (.int i), some (.int (bigP 1)), none] H := by
        refine tFor_of (walk_range (lo := 0) (n := 124)) (H1 := H) ?_ (fun k σ H' => H' = H ∧ ∃ y, σ = [some (.int i), some (.int (bigP (k + 1))), y]) ⟨rfl, _, rfl⟩ (fun _ _ _ _ _ => trivial) ?_ ?_
        · intro R hR
          simp only [iRng1]
          walk_at "x"
          exact ⟨⟨by decide, by decide⟩, by decide, by decide, hR⟩
        · rintro k v σ H1 H2 hk ⟨rfl, y, rfl⟩ ⟨rfl, rfl⟩
          walk_at "x"
          refine ⟨⟨by decide, by decide, by decide⟩, ?_, ?_⟩
          · have b1 := bigP_bits (k + 1)
            refine wide_mul (a := 107 * (k + 1) + 1) (b := 107) b1 (by decide) (by omega) (by omega) (by omega)
          · rw [bigP_succ (k + 1)]
            rfl
        · rintro σ H' ⟨rfl, y, rfl⟩
          exact fin y
      simp only [shortD, shortI] at hq
      by_cases h1 : -bigP 1 < i
      · rw [if_pos h1]
        by_cases h2 : i < bigP 1
        · rw [if_pos h2]
          have m := bigP_mono (show 1 ≤ 125 by decide)
          rw [decide_eq_true (by omega), decide_eq_true (by omega)] at hq
          exact hq
        · rw [if_neg h2]
          exact loop
      · rw [if_neg h1]
        exact loop
    | bl b => exact iteT hq
    | _ => exact iteT hq
/-- the digits of a text -/
def bodyL (l : List Nat) : List Nat := if l.take 1 = [45] then l.drop 1 else l
def okBody (l : List Nat) : Bool := decide (1 ≤ (bodyL l).length) && decide ((bodyL l).length ≤ 4000) && (bodyL l).all isDig && !(((bodyL l).head? == some 48) && !decide (l = [48]))
/-- read_whole: the whole number of a text -/
def wholeL (l : List Nat) : Option Int := if okBody l then PySem.intText? (S l) else none
theorem all_dig {l : List Nat} (h : l.all isDig = true) : NumText.AllDigits l := by
  intro c hc
  have := List.all_eq_true.mp h c hc
  simp only [isDig, Bool.and_eq_true, decide_eq_true_eq] at this
  exact this
theorem body_int {l : List Nat} (h1 : 1 ≤ (bodyL l).length) (h2 : (bodyL l).length ≤ 4000) (h3 : (bodyL l).all isDig = true) : (∀ c ∈ l, c = 45 ∨ (48 ≤ c ∧ c ≤ 57)) ∧ ∃ n, PySem.intText? (S l) = some n := by
  unfold bodyL at h1 h2 h3
  by_cases h : l.take 1 = [45]
  · rw [if_pos h] at h1 h2 h3
    cases l with
    | nil => simp at h
    | cons c r =>
      have e : c = 45 := by simpa using h
      subst e
      have ad := all_dig h3
      refine ⟨fun c hc => ?_, _, PySem.intText_neg (x := S (45 :: r)) (cs := r) rfl ad (by rintro rfl; simp at h1) (by rw [len_S, List.length_cons]; rw [List.drop_one, List.tail_cons] at h2; omega)⟩
      rcases List.mem_cons.mp hc with rfl | hc
      · exact .inl rfl
      · exact .inr (ad c hc)
  · rw [if_neg h] at h1 h2 h3
    have ad := all_dig h3
    exact ⟨fun c hc => .inr (ad c hc), _, PySem.intText_digits (x := S l) ad (by rintro rfl; simp [S] at h1) (by rw [len_S]; omega)⟩
theorem bodyL_le (l : List Nat) : (bodyL l).length ≤ l.length := by
  unfold bodyL
  split
  · rw [List.length_drop]; omega
  · exact Nat.le_refl _
theorem minus_lit : Str.ofString "-" = S [45] := by decide +kernel
theorem zero_lit : Str.ofString "0" = S [48] := by decide +kernel
def spReadWhole (K : PySem.W.Frag) : Sp := fun vs H Q E => ∃ z : Str, vs = [.str z] ∧ z.length ≤ 1000000 ∧ (∀ i, wholeL z.cps.toList = some i → ∀ H', Same H H' → Q (.int i) H') ∧ (wholeL z.cps.toList = none → ∀ H', Same H H' → ∀ {y : Str}, tX (mal K) y H' E)
theorem o_read_whole (W : Wd fa fn K mg) : OkF P w K mg base d_read_whole 1 ["text"] (spReadWhole K) := by
  refine okfN true W (d := d_read_whole) 5 sc_read_whole rfl rfl (fun _ _ _ _ _ _ us hl => match us, hl with | [_], _ => rfl) ?len (fun cdv A outer s H vs Q E hr nd hu tk bo h => ?body)
  case len =>
    rintro vs H Q E ⟨z, rfl, _⟩
    rfl
  case body =>
    have po := bo.po; refine ⟨_, (Evl.pss_cut (ps_set (i := 1) nd rfl (by first | exact Or.inl rfl | exact Or.inr rfl) (pe_ifExp (pt_cmpR op_eq (pe_slice sl_str (pv 0) po_none (po_some pe_int)) pe_str (nomark _)) (pe_slice sl_str (pv 0) (po_some pe_int) po_none) (pv 0)))
    (pss_cons (ps_if (PW.pt (pw_or (pt_not (pt_chain op_le op_le pe_int (pe_callB call_len (by rfl) (W.free 3) (by decide +kernel) (pa_cons (pv 1) pa_nil)) (C8.pe_gc rfl (W.intV 14)))) (pw_or1 (pt_not (pt_val (pe_callB (cr_all rfl) (by rfl) (W.free 7) (by decide +kernel) (pa_cons (pe_lc (own := [("sign", 2)]) (g := (gName 2)) (tt := tYes) rfl nd (pi_str (pv 1)) (blkOk_by (own := [("sign", 2)]) (N := ["text", "body", "sign"]) (sc := defScope s_read_whole) (by decide +kernel)) (fun _ _ _ _ _ => (pg_name (i := 2) nd rfl (by first | exact Or.inl rfl | exact Or.inr rfl))) (fun _ _ _ _ _ => pts_nil) (fun _ _ _ _ _ => (pe_cmpR op_in_sign (pv 2) (C8.pe_gc rfl (W.strV 8)) (by rfl)))) pa_nil))))))) (pss_one (ps_raise rfl tk (W.pmk 18 19 rfl pe_str))) pss_nil)
    (pss_cons (ps_if (PW.pt (pw_and (pt_cmpR op_eq (pe_ix ix_str (pv 1) pe_int (fun _ _ => rfl)) pe_str (nomark _)) (pw_and1 (pt_cmpR op_ne (pv 0) pe_str (nomark _))))) (pss_one (ps_raise rfl tk (W.pmk 18 19 rfl pe_str))) pss_nil)
    (pss_one (ps_ret (pe_callTy (call_int_strW W.dg) (by rfl) (W.free 2) (by decide +kernel) (pa_cons (pv 0) pa_nil))))))), ?_⟩
    obtain ⟨z, rfl, hz, hq, he⟩ := h
    clear tk po bo
    have el : z.length = z.cps.toList.length := rfl
    unfold Evl.tCut
    refine ⟨fun σ H' => H' = H ∧ σ = [some (.str z), some (.str (S (bodyL z.cps.toList))), none], ?_, ?_⟩
    · walk_at "x"
      refine ⟨by rw [sizeLine_eq]; omega, ?_⟩
      have e1 := cut_to z 1
      have e2 := cut_from z 1
      rw [show ((1 : Nat) : Int) = 1 from rfl] at e1 e2
      rw [e1, e2, minus_lit]
      unfold bodyL
      by_cases h : z.cps.toList.take 1 = [45]
      · rw [if_pos (S_inj.mpr h), if_pos h]
        exact ⟨by rw [sizeLine_eq]; omega, rfl⟩
      · rw [if_neg (fun x => h (S_inj.mp x)), if_neg h]
        rfl
    · rintro σ H' ⟨rfl, rfl⟩
      have lb := bodyL_le z.cps.toList
      have hb := body_int (l := z.cps.toList)
      have ok : okBody z.cps.toList = false → ∀ H1, Same H' H1 → ∀ {y : Str}, tX (mal K) y H1 E := fun h => he (by unfold wholeL; rw [h]; rfl)
      unfold okBody at ok
      have hq' : okBody z.cps.toList = true → ∀ i, PySem.intText? z = some i → ∀ H1, Same H' H1 → Q (.int i) H1 := fun h i hi => hq i (by unfold wholeL; rw [h]; exact hi)
      unfold okBody at hq'
      generalize hbd : bodyL z.cps.toList = b at *
      walk_at "x"
      refine ⟨b.length, ⟨by rw [sizeLine_eq, len_S]; omega, rfl⟩, ?_⟩
      by_cases h1 : 1 ≤ b.length
      · rw [if_pos (by omega)]
        by_cases h2 : b.length ≤ 4000
        · rw [decide_eq_true (show (b.length : Int) ≤ 4000 by omega)]
          refine iteF ?_
          refine tLc_str (z := S b) (f := fun c => .bl (isDig c)) (by rw [len_S]; omega) (fun R h => ⟨_, rfl, h⟩) (fun x => rfl) ?_ ?_
          · intro c H2 R hR
            walk_at "x"
            simpa only [in_dig] using hR
          · intro D hD
            refine ⟨D, b.map isDig, rfl, SqL.of (by rw [upd_same, List.map_map]; rfl), ?_⟩
            have sm := Same.new (o := .lst ((S b).cps.toList.map fun c => .bl (isDig c))) hD
            rw [show (b.map isDig).all id = b.all isDig by rw [List.all_map]; rfl]
            rw [decide_eq_true h1, decide_eq_true h2] at ok hq'
            cases h3 : b.all isDig with
            | false =>
              rw [h3] at ok
              exact ⟨_, rfl, iteT (ok rfl _ sm)⟩
            | true =>
              rw [h3] at ok hq'
              refine ⟨_, rfl, iteF ?_⟩
              obtain ⟨g1, n, g2⟩ := hb h1 h2 h3
              have fin : okBody z.cps.toList = true → rIntW [V.str z] (upd H' D (.lst ((S b).cps.toList.map fun c => .bl (isDig c)))) Q := by
                intro h
                unfold okBody at h
                rw [hbd, decide_eq_true h1, decide_eq_true h2, h3] at h
                exact ⟨z, rfl, g1, by rw [sizeLine_eq]; omega, n, g2, hq' h n g2 _ sm⟩
              unfold okBody at fin
              rw [hbd, decide_eq_true h1, decide_eq_true h2, h3] at fin
              refine ⟨by rw [sizeLine_eq, len_S]; omega, ?_⟩
              cases b with
              | nil => simp at h1
              | cons c r =>
                refine ⟨c, atI_nat (j := 0) rfl, ?_⟩
                rw [zero_lit]
                have zl : (z = S [48]) = (z.cps.toList = [48]) := propext ⟨fun h => by rw [h]; rfl, fun h => by rw [← S_tl z, h]⟩
                by_cases hc : c = 48
                · subst hc
                  rw [if_pos (show (⟨#[48]⟩ : Str) = S [48] from rfl)]
                  by_cases h4 : z = S [48]
                  · rw [decide_eq_true h4]
                    refine iteF (fin ?_)
                    have := zl ▸ h4
                    rw [this]
                    rfl
                  · rw [decide_eq_false h4]
                    refine iteT (ok ?_ _ sm)
                    rw [zl] at h4
                    rw [decide_eq_false h4]
                    rfl
                · rw [if_neg (by rw [show (⟨#[c]⟩ : Str) = S [c] from rfl, S_inj]; simpa using hc)]
                  refine fin ?_
                  simp [hc]
        · rw [decide_eq_false (show ¬ (b.length : Int) ≤ 4000 by omega)]
          refine iteT (ok ?_ _ (Same.refl _))
          rw [decide_eq_false h2]
          simp
      · rw [if_neg (by omega)]
        refine ok ?_ _ (Same.refl _)
        rw [decide_eq_false h1]
        simp
end
end WW

set_option maxHeartbeats 4000000
namespace WW
open PySem PySem.Spec PyProof.Rows L2
local macro_rules | `(tactic| walk_at "x") => `(tactic| simp only [tSeq, tNext, tAsg, gName, tRet, tRetN, tIfS, tOp, tUn, rI, rI0, rU, tTest, tB, tAnd, tOr, tNot, tAndV, tOrV, tNotV, tIf, tCons, tNil, tTup, tLst, tCall, tCallS, tMeth, tMake, tFld, sFld, tBM, tBM0, tCB, tSl, tPart, tNoPart, tDrop, tPar, tPar3, tAug, ipI, gTup, gCons, gNil, gSub, rSetL, rAppend, rPop, rIxL, rIxS, rIxT, rEq, rNe, tChain, tNever, tThen, tVar, tC, L2.start, List.map_cons, List.map_nil, List.length_cons, List.length_nil, List.replicate_succ, List.replicate_zero, List.append_nil, List.nil_append, List.cons_append, Nat.reduceAdd, Nat.reduceSub, Nat.add_zero, Nat.zero_add, Nat.sub_zero, Nat.sub_self,
  List.getElem?_cons_zero, List.getElem?_cons_succ, Option.some.injEq, exists_eq_left', exists_eq_left, exists_eq', exists_eq, exists_and_left, List.set_cons_zero, List.set_cons_succ, V.int.injEq, V.bl.injEq, V.str.injEq, V.ref.injEq, V.ty.injEq, List.cons.injEq, and_true, true_and, and_assoc, if_true, if_false, Bool.false_eq_true, reduceCtorEq, false_and, and_false, exists_false, false_or, or_false, Bool.not_true, Bool.not_false, decide_eq_true_eq, ite_true, ite_false, WE, cxOf_K, cxOf_mg, rSlS, scal, wipe, mem_low, mem_dig, mem_brk, mem_brk4, sgn_inj, Bool.decide_eq_true])

/-- the pieces of a text, tok as begun -/
def pcs (tok : List Nat) : List Nat → List (List Nat)
  | [] => if tok = [] then [] else [tok]
  | c :: l => if isBrk c then (if tok = [] then [] else [tok]) ++ [c] :: pcs [] l else pcs (tok ++ [c]) l
def spPieces : Sp := fun vs H Q _ => ∃ z : Str, vs = [.str z] ∧ z.length ≤ 1000000 ∧ ∀ D H', Same H H' → H D = none → H' D = some (.lst ((pcs [] z.cps.toList).map fun p => .str (S p))) → Q (.ref D) H'
theorem pcs_nil (t : List Nat) : pcs t [] = if t = [] then [] else [t] := rfl
theorem pcs_cons (t : List Nat) (c : Nat) (l : List Nat) : pcs t (c :: l) = if isBrk c then (if t = [] then [] else [t]) ++ [c] :: pcs [] l else pcs (t ++ [c]) l := rfl
theorem tyLst {K : PySem.W.Frag} {H : Hp} {p : Addr} {xs : List V} (h : H p = some (.lst xs)) : tyV K "list" (.ref p) H := .inl ⟨rfl, _, SqL.of h⟩
def tokL (l : List Nat) (s i : Nat) : List Nat := (l.drop s).take (i - s)
theorem tok_len {l : List Nat} {s i : Nat} (hi : i ≤ l.length) : (tokL l s i).length = i - s := by
  unfold tokL
  rw [List.length_take, List.length_drop]
  omega
theorem tok_ne {l : List Nat} {s i : Nat} (hi : i ≤ l.length) (h : s < i) : tokL l s i ≠ [] := fun e => by
  have := tok_len (s := s) hi
  rw [e, List.length_nil] at this
  omega
theorem tok_nil {l : List Nat} {s i : Nat} (h : i ≤ s) : tokL l s i = [] := by
  unfold tokL
  rw [show i - s = 0 by omega, List.take_zero]
theorem tok_snoc {l : List Nat} {s i : Nat} {c : Nat} (h : s ≤ i) (e : l[i]? = some c) : tokL l s i ++ [c] = tokL l s (i + 1) := by
  unfold tokL
  rw [show i + 1 - s = (i - s) + 1 by omega, List.take_succ, List.getElem?_drop, show s + (i - s) = i by omega, e]
  rfl
theorem drop_at {α : Type} {l : List α} {i : Nat} {c : α} (e : l[i]? = some c) : l.drop i = c :: l.drop (i + 1) := by
  obtain ⟨h, e⟩ := List.getElem?_eq_some_iff.mp e
  rw [List.drop_eq_getElem_cons h, e]
def pcInv (z : Str) (H : Hp) (p : Addr) (i : Nat) (σ : L2.St) (H' : Hp) : Prop := Same H H' ∧ ∃ found start y3 y4, σ = [some (.str z), some (.ref p), some (.int ((start : Nat) : Int)), y3, y4] ∧ H' p = some (.lst (found.map fun q => .str (S q))) ∧ found.length ≤ 2 * i ∧ start ≤ i ∧
  pcs [] z.cps.toList = found ++ pcs (tokL z.cps.toList start i) (z.cps.toList.drop i)
section
variable {P : Program} {w : World} {K : PySem.W.Frag} {mg : Str → Option Value} {base : Heap}
theorem o_pieces_of (W : Wd fa fn K mg) : OkF P w K mg base d_pieces_of 1 ["text"] spPieces := by
  refine okfN true W (d := d_pieces_of) 6 sc_pieces_of rfl rfl (fun _ _ _ _ _ _ us hl => match us, hl with | [_], _ => rfl) ?len (fun cdv A outer s H vs Q E hr nd hu tk bo h => ?body)
  case len =>
    rintro vs H Q E ⟨z, rfl, _⟩
    rfl
  case body =>
    have po := bo.po; refine ⟨_, (pss_cons (ps_par (i := 1) (j := 2) (by rfl) nd rfl rfl (by decide) rfl rfl (pa_cons (pe_lst pa_nil) (pa_cons pe_int pa_nil)) (by rfl))
    (pss_cons (ps_for po rfl (pi_enumS (by rfl) (W.free 20) (pa_cons (pv 0) pa_nil)) (pg_tup rfl (pgs_cons (pg_name (i := 3) nd rfl (by first | exact Or.inl rfl | exact Or.inr rfl)) (pgs_cons (pg_name (i := 4) nd rfl (by first | exact Or.inl rfl | exact Or.inr rfl)) pgs_nil)))
      (pss_one (ps_if (pt_cmpR op_in_sign (pv 4) pe_str (by rfl)) (pss_cons (ps_if (pt_cmpR op_lt (pv 2) (pv 3) (nomark _)) (pss_one (ps_expr (pe_bm PySem.F.plainAttrs_list PySem.F.slot_list_append PySem.F.type_list_append mt_append (pv 1) (pa_cons (pe_slice sl_str (pv 0) (po_some (pv 2)) (po_some (pv 3))) pa_nil)))) pss_nil)
    (pss_cons (ps_expr (pe_bm PySem.F.plainAttrs_list PySem.F.slot_list_append PySem.F.type_list_append mt_append (pv 1) (pa_cons (pv 4) pa_nil)))
    (pss_one (ps_set (i := 2) nd rfl (by first | exact Or.inl rfl | exact Or.inr rfl) (pe_op op_add (pv 3) pe_int))))) pss_nil)))
    (pss_one (ps_ret (pe_op op_cat (pv 1) (pe_ifExp (pt_cmpR op_lt (pv 2) (pe_callB call_len (by rfl) (W.free 3) (by decide +kernel) (pa_cons (pv 0) pa_nil)) (nomark _)) (pe_lst (pa_cons (pe_slice sl_str (pv 0) (po_some (pv 2)) po_none) pa_nil)) (pe_lst pa_nil))))))), ?_⟩
    obtain ⟨z, rfl, hz, hq⟩ := h
    clear tk po bo
    have el : z.length = z.cps.toList.length := rfl
    have es : z.cps.size = z.cps.toList.length := rfl
    walk_at "x"
    refine ⟨by decide, fun p hp => ?_⟩
    refine tFor_of (walk_enumS (z := z)) (H1 := upd H p (.lst [])) ?_ (pcInv z H p) ?_ (fun _ _ _ _ _ => trivial) ?_ ?_
    · intro R hR
      simp only [iEnumS]
      walk_at "x"
      exact hR
    · exact ⟨Same.new hp, [], 0, none, none, rfl, upd_same, by simp, by omega, by simp [tokL]⟩
    · rintro i v σ H1 H2 hi ⟨sm, found, start, y3, y4, rfl, h1, h2, h3, h4⟩ ⟨T, c, rfl, hT, hc, rfl⟩
      have hc' : z.cps.toList[i]? = some c := by simpa using hc
      walk_at "x"
      refine ⟨_, SqT.of upd_same, rfl, _, _, rfl, _, _, rfl, rfl, c, rfl, ?_⟩
      have hpT : p ≠ T := ne_of_none h1 hT
      have smT := Same.mut (o := .tup [.int (i : Nat), .str ⟨#[c]⟩]) sm (Same.none sm hT)
      have g1 : ∀ o, upd H1 T o p = some (.lst (found.map fun q => .str (S q))) := fun o => by rw [upd_ne hpT]; exact h1
      rw [drop_at hc'] at h4
      rw [es] at hi
      cases hb : isBrk c with
      | false =>
        refine iteF ?_
        refine ⟨smT, found, start, _, _, rfl, g1 _, by omega, by omega, ?_⟩
        rw [h4, pcs_cons, hb, tok_snoc h3 hc']
        rfl
      | true =>
        refine iteT ⟨_, rfl, ?_⟩
        have e1 : S [c] = ⟨#[c]⟩ := rfl
        by_cases hs : start < i
        · rw [if_pos (by omega)]
          refine ⟨tyLst (g1 _), _, rfl, by rw [sizeLine_eq]; omega, _, g1 _, by rw [List.length_map, sizeLine_eq]; omega, tyLst upd_same, _, upd_same, by rw [List.length_append, List.length_map, sizeLine_eq, List.length_singleton]; omega, _, rfl, ?_⟩
          have e2 := cut_mid z start i h3 (by omega)
          rw [e2, upd_upd, ← e1]
          refine ⟨Same.mut smT hp, found ++ [tokL z.cps.toList start i, [c]], i + 1, _, _, rfl, ?_, ?_, Nat.le_refl _, ?_⟩
          · rw [upd_same]
            simp [tokL]
          · simp; omega
          · rw [h4]
            conv => lhs; unfold pcs
            rw [hb, if_neg (tok_ne (by omega) hs), tok_nil (Nat.le_refl _)]
            simp
        · rw [if_neg (by omega)]
          refine ⟨tyLst (g1 _), _, g1 _, by rw [List.length_map, sizeLine_eq]; omega, _, rfl, ?_⟩
          rw [← e1]
          refine ⟨Same.mut smT hp, found ++ [[c]], i + 1, _, _, rfl, ?_, ?_, Nat.le_refl _, ?_⟩
          · rw [upd_same]
            simp
          · simp; omega
          · rw [h4]
            conv => lhs; unfold pcs
            rw [hb, tok_nil (show i ≤ start by omega), tok_nil (Nat.le_refl _)]
            simp
    · rintro σ H1 ⟨sm, found, start, y3, y4, rfl, h1, h2, h3, h4⟩
      walk_at "x"
      refine ⟨z.length, ⟨by rw [sizeLine_eq]; omega, rfl⟩, ?_⟩
      rw [es] at h2 h3 h4
      rw [List.drop_length] at h4
      rw [show ∀ t, pcs t [] = if t = [] then [] else [t] from pcs_nil] at h4
      by_cases hs : start < z.length
      · rw [if_pos (by omega)]
        refine ⟨by rw [sizeLine_eq]; omega, by decide, fun b hb => ?_⟩
        rw [cut_from z start]
        refine ⟨p, b, _, _, rfl, rfl, by rw [upd_ne (ne_of_none h1 hb)]; exact h1, upd_same, by rw [List.length_map, sizeLine_eq, List.length_singleton]; omega, fun r hr => ?_⟩
        have sb := Same.mut (o := .lst [.str (S (z.cps.toList.drop start))]) sm (Same.none sm hb)
        refine hq _ _ (Same.mut sb (Same.none sb hr)) (Same.none sb hr) ?_
        rw [upd_same, h4, if_neg (tok_ne (Nat.le_refl _) (by omega))]
        simp only [tokL, List.map_append, List.map_cons, List.map_nil]
        rw [List.take_of_length_le (by rw [List.length_drop]; exact Nat.le_refl _)]
      · rw [if_neg (by omega)]
        refine ⟨by decide, fun b hb => ?_⟩
        refine ⟨p, b, _, _, rfl, rfl, by rw [upd_ne (ne_of_none h1 hb)]; exact h1, upd_same, by rw [List.length_map, sizeLine_eq, List.length_nil]; omega, fun r hr => ?_⟩
        have sb := Same.mut (o := .lst []) sm (Same.none sm hb)
        refine hq _ _ (Same.mut sb (Same.none sb hr)) (Same.none sb hr) ?_
        rw [upd_same, h4, if_pos (tok_nil (by omega))]
        simp
end
end WW

set_option maxHeartbeats 4000000
namespace WW
open PySem PySem.Spec PyProof.Rows L2
local macro_rules | `(tactic| walk_at "x") => `(tactic| simp only [tSeq, tNext, tAsg, gName, tRet, tRetN, tIfS, tOp, tUn, rI, rI0, rU, tTest, tB, tAnd, tOr, tNot, tAndV, tOrV, tNotV, tIf, tCons, tNil, tTup, tLst, tCall, tCallS, tMeth, tMake, tFld, sFld, tBM, tBM0, tCB, tSl, tPart, tNoPart, tDrop, tPar, tPar3, tAug, ipI, gTup, gCons, gNil, gSub, rSetL, rAppend, rPop, rIxL, rIxS, rIxT, rEq, rNe, tChain, tNever, tThen, tVar, tC, L2.start, List.map_cons, List.map_nil, List.length_cons, List.length_nil, List.replicate_succ, List.replicate_zero, List.append_nil, List.nil_append, List.cons_append, Nat.reduceAdd, Nat.reduceSub, Nat.add_zero, Nat.zero_add, Nat.sub_zero, Nat.sub_self,
  List.getElem?_cons_zero, List.getElem?_cons_succ, Option.some.injEq, exists_eq_left', exists_eq_left, exists_eq', exists_eq, exists_and_left, List.set_cons_zero, List.set_cons_succ, V.int.injEq, V.bl.injEq, V.str.injEq, V.ref.injEq, V.ty.injEq, List.cons.injEq, and_true, true_and, and_assoc, if_true, if_false, Bool.false_eq_true, reduceCtorEq, false_and, and_false, exists_false, false_or, or_false, Bool.not_true, Bool.not_false, decide_eq_true_eq, ite_true, ite_false, WE, cxOf_K, cxOf_mg, rSlS, scal, wipe, mem_low, mem_dig, mem_brk, mem_brk4, sgn_inj, Bool.decide_eq_true])

/-! ### the reader, plain -/
structure RS where
  rows : List (List PyData)
  ready : Bool
  told : List PyData
def RS.item (s : RS) (d : PyData) : Option RS := if s.ready then (match s.rows with
  | row :: rest => some ⟨(row ++ [d]) :: rest, false, s.told⟩
  | [] => some ⟨[], false, s.told ++ [d]⟩) else none
def RS.open_ (s : RS) : Option RS := if s.ready && decide (s.rows.length < 1000) then some ⟨[] :: s.rows, s.ready, s.told⟩ else none
def RS.close (s : RS) : Option RS := match s.rows with
  | [] => none
  | row :: rest => if s.ready && decide (0 < row.length) then none else RS.item ⟨rest, true, s.told⟩ (.tuple row)
def RS.comma (s : RS) : Option RS := if s.ready || s.rows.isEmpty then none else some ⟨s.rows, true, s.told⟩
def atomR (p : List Nat) : Option PyData := if wordL p then some (.str (S p)) else (wholeL p).map .int
def RS.take (s : RS) (p : List Nat) : Option RS :=
  if p = [91] then s.open_ else if p = [93] then s.close else if p = [44] then s.comma else (atomR p).bind s.item
/-! ### the reader in the heap -/
def Row (K : PySem.W.Frag) (H : Hp) (n : Nat) (a : Addr) (ds : List PyData) : Prop := ∃ vs, H a = some (.lst vs) ∧ DpAll K H vs ds ∧ imm.immAll ds = true ∧ ds.length ≤ n
inductive RowsOk (K : PySem.W.Frag) (H : Hp) (n : Nat) : List Addr → List (List PyData) → Prop
  | nil : RowsOk K H n [] []
  | cons {a ds as dss} : Row K H n a ds → RowsOk K H n as dss → RowsOk K H n (a :: as) (ds :: dss)
structure Fs (fs : List (Str × V)) (T : Addr) (b : Bool) (L : Addr) : Prop where
  t : fs.lookup (Str.ofString "tuples") = some (V.ref T)
  r : fs.lookup (Str.ofString "ready") = some (V.bl b)
  l : fs.lookup (Str.ofString "told") = some (V.ref L)
  o : ∀ m : Str, m ≠ Str.ofString "tuples" → m ≠ Str.ofString "ready" → m ≠ Str.ofString "told" → fs.lookup m = none
structure RdB (K : PySem.W.Frag) (B : Hp) (n : Nat) (H : Hp) (r : Addr) (s : RS) (dx : Addr) (fs : List (Str × V)) (T L : Addr) (as : List Addr) : Prop where
  hr : H r = some (.ins (He.ga K "DataReader") dx fs)
  fs_ : Fs fs T s.ready L
  fl : fs.length < 100
  ht : H T = some (.lst (as.map V.ref).reverse)
  hl : Row K H n L s.told
  hs : RowsOk K H n as s.rows
  nd : (T :: L :: as).Nodup
  sm : Same B H
  br : B r = none
  bt : B T = none
  bl : B L = none
  bs : ∀ a ∈ as, B a = none
def Rd (K : PySem.W.Frag) (B : Hp) (n : Nat) (H : Hp) (r : Addr) (s : RS) : Prop := ∃ dx fs T L as, RdB K B n H r s dx fs T L as
theorem DpAll.tx {K : PySem.W.Frag} {H H' : Hp} {vs : List V} {ds : List PyData} (t : Tx H H') (i : imm.immAll ds = true) (h : DpAll K H vs ds) : DpAll K H' vs ds := Dp.txs t ds vs i h
theorem Row.tx {K : PySem.W.Frag} {H H' : Hp} {n : Nat} {a : Addr} {ds : List PyData} (t : Tx H H') (e : H' a = H a) (h : Row K H n a ds) : Row K H' (n + 1) a ds := by
  obtain ⟨vs, h1, h2, h3, h4⟩ := h
  exact ⟨vs, e.trans h1, DpAll.tx t h3 h2, h3, by omega⟩
theorem RowsOk.tx {K : PySem.W.Frag} {H H' : Hp} {n : Nat} {as : List Addr} {dss : List (List PyData)} (t : Tx H H') (e : ∀ a ∈ as, H' a = H a) (h : RowsOk K H n as dss) : RowsOk K H' (n + 1) as dss := by
  induction h with
  | nil => exact .nil
  | cons h1 h2 ih => exact .cons (h1.tx t (e _ (List.mem_cons_self ..))) (ih fun a ha => e a (List.mem_cons_of_mem _ ha))
theorem RowsOk.len {K : PySem.W.Frag} {H : Hp} {n : Nat} {as : List Addr} {dss : List (List PyData)} (h : RowsOk K H n as dss) : as.length = dss.length := by
  induction h with
  | nil => rfl
  | cons _ _ ih => rw [List.length_cons, List.length_cons, ih]
theorem RowsOk.some {K : PySem.W.Frag} {H : Hp} {n : Nat} {as : List Addr} {dss : List (List PyData)} (h : RowsOk K H n as dss) : ∀ a ∈ as, ∃ vs, H a = some (.lst vs) := by
  induction h with
  | nil => intro a ha; cases ha
  | cons h1 _ ih =>
    intro a ha
    rcases List.mem_cons.mp ha with rfl | ha
    · exact ⟨_, h1.choose_spec.1⟩
    · exact ih a ha
/-- the instance is none of the lists -/
theorem ne_ins {H : Hp} {a b C dx : Addr} {fs : List (Str × V)} {xs : List V} (h : H a = some (.ins C dx fs)) (g : H b = some (.lst xs)) : a ≠ b := by
  rintro rfl
  rw [h] at g
  cases g
theorem noTup_l {xs : List V} : noTup (.lst xs) := trivial
theorem noTup_i {C dx : Addr} {fs : List (Str × V)} : noTup (.ins C dx fs) := trivial
theorem len_putF {f : Str} {v : V} : ∀ fs : List (Str × V), (fs.lookup f).isSome = true → (putF f v fs).length = fs.length
  | [], h => by cases h
  | (g, x) :: r, h => by
    unfold putF
    by_cases e : g = f
    · rw [if_pos e]; rfl
    · rw [if_neg e, List.length_cons, List.length_cons]
      have e2 : (f == g) = false := by
        cases q : f == g with
        | false => rfl
        | true => exact absurd (eq_of_beq q).symm e
      rw [List.lookup_cons, e2] at h
      rw [len_putF r h]
/-- a field of the instance is set -/
theorem Fs.ready {fs : List (Str × V)} {T L : Addr} {b b' : Bool} (h : Fs fs T b L) : Fs (putF "ready" (.bl b') fs) T b' L :=
  ⟨by rw [lookup_putF, if_neg (by decide)]; exact h.t, by rw [lookup_putF, if_pos rfl], by rw [lookup_putF, if_neg (by decide)]; exact h.l, fun m a b c => by rw [lookup_putF, if_neg b]; exact h.o m a b c⟩
section
variable {K : PySem.W.Frag} {B H : Hp} {n : Nat} {r dx T L : Addr} {s : RS} {fs : List (Str × V)} {as : List Addr}
theorem RdB.r_t (h : RdB K B n H r s dx fs T L as) : r ≠ T := ne_ins h.hr h.ht
theorem RdB.r_l (h : RdB K B n H r s dx fs T L as) : r ≠ L := ne_ins h.hr h.hl.choose_spec.1
theorem RdB.r_s (h : RdB K B n H r s dx fs T L as) : ∀ a ∈ as, r ≠ a := fun a ha => by
  obtain ⟨vs, e⟩ := h.hs.some a ha
  exact ne_ins h.hr e
theorem RdB.t_l (h : RdB K B n H r s dx fs T L as) : T ≠ L := fun e => (List.nodup_cons.mp h.nd).1 (e ▸ List.mem_cons_self ..)
theorem RdB.t_s (h : RdB K B n H r s dx fs T L as) : ∀ a ∈ as, T ≠ a := fun a ha e => (List.nodup_cons.mp h.nd).1 (e ▸ List.mem_cons_of_mem _ ha)
theorem RdB.l_s (h : RdB K B n H r s dx fs T L as) : ∀ a ∈ as, L ≠ a := fun a ha e => (List.nodup_cons.mp (List.nodup_cons.mp h.nd).2).1 (e ▸ ha)
/-- another ready -/
theorem RdB.ready (h : RdB K B n H r s dx fs T L as) (b : Bool) : RdB K B (n + 1) (upd H r (.ins (He.ga K "DataReader") dx (putF "ready" (.bl b) fs))) r ⟨s.rows, b, s.told⟩ dx (putF "ready" (.bl b) fs) T L as := by
  have t : Tx H (upd H r (.ins (He.ga K "DataReader") dx (putF "ready" (.bl b) fs))) := Tx.up h.hr noTup_i
  refine ⟨upd_same, h.fs_.ready, ?_, ?_, h.hl.tx t (upd_ne h.r_l.symm), h.hs.tx t fun a ha => upd_ne (h.r_s a ha).symm, h.nd, Same.mut h.sm h.br, h.br, h.bt, h.bl, h.bs⟩
  · rw [len_putF fs (by rw [h.fs_.r]; rfl)]
    exact h.fl
  · rw [upd_ne h.r_t.symm]
    exact h.ht
theorem RowsOk.nx {as : List Addr} {dss : List (List PyData)} (h : RowsOk K H n as dss) : RowsOk K H (n + 1) as dss := h.tx (Tx.refl _) fun _ _ => rfl
/-- something new aside -/
theorem RdB.aside (h : RdB K B n H r s dx fs T L as) {p : Addr} {o : HO} (e : H p = none) : RdB K B (n + 1) (upd H p o) r s dx fs T L as := by
  have t : Tx H (upd H p o) := Tx.nw e
  obtain ⟨vs, hv, _⟩ := id h.hl
  refine ⟨by rw [upd_ne (ne_of_none h.hr e)]; exact h.hr, h.fs_, h.fl, by rw [upd_ne (ne_of_none h.ht e)]; exact h.ht, h.hl.tx t (upd_ne (ne_of_none hv e)), h.hs.tx t fun a ha => ?_, h.nd, Same.mut h.sm (Same.none h.sm e), h.br, h.bt, h.bl, h.bs⟩
  obtain ⟨us, hu⟩ := h.hs.some a ha
  exact upd_ne (ne_of_none hu e)
end
end WW

set_option maxHeartbeats 4000000
namespace WW
open PySem PySem.Spec PyProof.Rows L2
local macro_rules | `(tactic| walk_at "x") => `(tactic| simp only [tSeq, tNext, tAsg, gName, tRet, tRetN, tIfS, tOp, tUn, rI, rI0, rU, tTest, tB, tAnd, tOr, tNot, tAndV, tOrV, tNotV, tIf, tCons, tNil, tTup, tLst, tCall, tCallS, tMeth, tMake, tFld, sFld, tBM, tBM0, tCB, tSl, tPart, tNoPart, tDrop, tPar, tPar3, tAug, ipI, gTup, gCons, gNil, gSub, rSetL, rAppend, rPop, rIxL, rIxS, rIxT, rEq, rNe, tChain, tNever, tThen, tVar, tC, L2.start, List.map_cons, List.map_nil, List.length_cons, List.length_nil, List.replicate_succ, List.replicate_zero, List.append_nil, List.nil_append, List.cons_append, Nat.reduceAdd, Nat.reduceSub, Nat.add_zero, Nat.zero_add, Nat.sub_zero, Nat.sub_self,
  List.getElem?_cons_zero, List.getElem?_cons_succ, Option.some.injEq, exists_eq_left', exists_eq_left, exists_eq', exists_eq, exists_and_left, List.set_cons_zero, List.set_cons_succ, V.int.injEq, V.bl.injEq, V.str.injEq, V.ref.injEq, V.ty.injEq, List.cons.injEq, and_true, true_and, and_assoc, if_true, if_false, Bool.false_eq_true, reduceCtorEq, false_and, and_false, exists_false, false_or, or_false, Bool.not_true, Bool.not_false, decide_eq_true_eq, ite_true, ite_false, WE, cxOf_K, cxOf_mg, rSlS, scal, wipe, mem_low, mem_dig, mem_brk, mem_brk4, sgn_inj, Bool.decide_eq_true])

section
variable {K : PySem.W.Frag} {B H : Hp} {n : Nat} {r dx T L : Addr} {s : RS} {fs : List (Str × V)} {as : List Addr}
theorem immAll_snoc {ds : List PyData} {d : PyData} (h : imm.immAll ds = true) (hi : imm d = true) : imm.immAll (ds ++ [d]) = true := by
  rw [immAll_app, h]
  simp [imm.immAll, hi]
/-- one more in a list -/
theorem Row.add {a : Addr} {vs : List V} {v : V} {ds : List PyData} {d : PyData} (h : Row K H n a ds) (hv : H a = some (.lst vs)) (hd : Dp K H v d) (hi : imm d = true) : Row K (upd H a (.lst (vs ++ [v]))) (n + 1) a (ds ++ [d]) := by
  obtain ⟨us, h1, h2, h3, h4⟩ := h
  rw [hv] at h1
  cases h1
  have t : Tx H (upd H a (.lst (vs ++ [v]))) := Tx.up hv noTup_l
  exact ⟨_, upd_same, DpAll.app (DpAll.tx t h3 h2) (.cons (Dp.tx t _ _ hi hd) .nil), immAll_snoc h3 hi, by rw [List.length_append]; exact Nat.succ_le_succ h4⟩
theorem RdB.toldAdd (g : RdB K B n H r s dx fs T L as) {vs : List V} {v : V} {d : PyData} (hv : H L = some (.lst vs)) (hd : Dp K H v d) (hi : imm d = true) : RdB K B (n + 1) (upd H L (.lst (vs ++ [v]))) r ⟨s.rows, s.ready, s.told ++ [d]⟩ dx fs T L as := by
  have t : Tx H (upd H L (.lst (vs ++ [v]))) := Tx.up hv noTup_l
  exact ⟨by rw [upd_ne g.r_l]; exact g.hr, g.fs_, g.fl, by rw [upd_ne g.t_l]; exact g.ht, g.hl.add hv hd hi, g.hs.tx t fun a ha => upd_ne (g.l_s a ha).symm, g.nd, Same.mut g.sm g.bl, g.br, g.bt, g.bl, g.bs⟩
theorem RdB.rowAdd {a : Addr} {row : List PyData} {rest : List (List PyData)} {b : Bool} {told : List PyData} (g : RdB K B n H r ⟨row :: rest, b, told⟩ dx fs T L (a :: as)) {vs : List V} {v : V} {d : PyData} (hv : H a = some (.lst vs)) (hd : Dp K H v d) (hi : imm d = true) :
    RdB K B (n + 1) (upd H a (.lst (vs ++ [v]))) r ⟨(row ++ [d]) :: rest, b, told⟩ dx fs T L (a :: as) := by
  have t : Tx H (upd H a (.lst (vs ++ [v]))) := Tx.up hv noTup_l
  obtain ⟨h1, h2⟩ : Row K H n a row ∧ RowsOk K H n as rest := by
    cases g.hs with
    | cons h1 h2 => exact ⟨h1, h2⟩
  have na : a ∉ as := (List.nodup_cons.mp (List.nodup_cons.mp (List.nodup_cons.mp g.nd).2).2).1
  refine ⟨by rw [upd_ne (g.r_s a (List.mem_cons_self ..))]; exact g.hr, g.fs_, g.fl, by rw [upd_ne (g.t_s a (List.mem_cons_self ..))]; exact g.ht, g.hl.tx t (upd_ne (g.l_s a (List.mem_cons_self ..))), ?_, g.nd, Same.mut g.sm (g.bs a (List.mem_cons_self ..)), g.br, g.bt, g.bl, g.bs⟩
  exact .cons (h1.add hv hd hi) (h2.tx t fun c hc => upd_ne fun e => na (e ▸ hc))
theorem RdB.popRow {a : Addr} {row : List PyData} {rest : List (List PyData)} {b : Bool} {told : List PyData} (g : RdB K B n H r ⟨row :: rest, b, told⟩ dx fs T L (a :: as)) :
    RdB K B (n + 1) (upd H T (.lst (as.map V.ref).reverse)) r ⟨rest, b, told⟩ dx fs T L as := by
  have t : Tx H (upd H T (.lst (as.map V.ref).reverse)) := Tx.up g.ht noTup_l
  obtain ⟨h1, h2⟩ : Row K H n a row ∧ RowsOk K H n as rest := by
    cases g.hs with
    | cons h1 h2 => exact ⟨h1, h2⟩
  have nd2 := g.nd
  refine ⟨by rw [upd_ne g.r_t]; exact g.hr, g.fs_, g.fl, upd_same, g.hl.tx t (upd_ne g.t_l.symm), h2.tx t fun c hc => upd_ne (g.t_s c (List.mem_cons_of_mem _ hc)).symm, ?_, Same.mut g.sm g.bt, g.br, g.bt, g.bl, fun c hc => g.bs c (List.mem_cons_of_mem _ hc)⟩
  simp only [List.nodup_cons, List.mem_cons, not_or] at nd2 ⊢
  exact ⟨⟨nd2.1.1, nd2.1.2.2⟩, nd2.2.1.2, nd2.2.2.2⟩
theorem last_ref {a : Addr} {as : List Addr} : atI (((a :: as).map V.ref).reverse) (-1) = some (.ref a) := by
  rw [List.map_cons, List.reverse_cons]
  exact atI_last _ _
end
theorem Row.up {K : PySem.W.Frag} {H : Hp} {n m : Nat} {a : Addr} {ds : List PyData} (h : n ≤ m) (q : Row K H n a ds) : Row K H m a ds := by
  obtain ⟨vs, q1, q2, q3, q4⟩ := q
  exact ⟨vs, q1, q2, q3, by omega⟩
theorem RowsOk.up {K : PySem.W.Frag} {H : Hp} {n m : Nat} {as : List Addr} {dss : List (List PyData)} (h : n ≤ m) (q : RowsOk K H n as dss) : RowsOk K H m as dss := by
  induction q with
  | nil => exact .nil
  | cons a b ih => exact .cons (a.up h) ih
theorem RdB.up {K : PySem.W.Frag} {B H : Hp} {n m : Nat} {r dx T L : Addr} {s : RS} {fs : List (Str × V)} {as : List Addr} (h : n ≤ m) (g : RdB K B n H r s dx fs T L as) : RdB K B m H r s dx fs T L as :=
  ⟨g.hr, g.fs_, g.fl, g.ht, g.hl.up h, g.hs.up h, g.nd, g.sm, g.br, g.bt, g.bl, g.bs⟩
def spInit (K : PySem.W.Frag) : Sp := fun vs H Q _ => ∃ r B dx, vs = [.ref r] ∧ H r = some (.ins (He.ga K "DataReader") dx []) ∧ Same B H ∧ B r = none ∧ ∀ H', Rd K B 0 H' r ⟨[], true, []⟩ → Q .non H'

/-- what a method of the reader answers -/
def Ans (K : PySem.W.Frag) (B : Hp) (n : Nat) (r : Addr) (Q : VK) (E : XK) : Option RS → Prop
  | some s => ∀ H', Rd K B n H' r s → Q .non H'
  | none => ∀ H', Same B H' → ∀ {y : Str}, tX (mal K) y H' E
def spItem (K : PySem.W.Frag) : Sp := fun vs H Q E => ∃ r v d B n s, vs = [.ref r, v] ∧ n ≤ 1000000 ∧ Rd K B n H r s ∧ Dp K H v d ∧ imm d = true ∧ Ans K B (n + 2) r Q E (s.item d)
def spOne (K : PySem.W.Frag) (f : RS → Option RS) : Sp := fun vs H Q E => ∃ r B n s, vs = [.ref r] ∧ n ≤ 900000 ∧ Rd K B n H r s ∧ Ans K B (n + 6) r Q E (f s)
section
variable {P : Program} {w : World} {K : PySem.W.Frag} {mg : Str → Option Value} {base : Heap}
theorem o_DataReader___init__ (W : Wd fa fn K mg) : OkF P w K mg base d_DataReader___init__ 1 ["self"] (spInit K) := by
  refine okfN true W (d := d_DataReader___init__) 7 sc_DataReader___init__ rfl rfl (fun _ _ _ _ _ _ us hl => match us, hl with | [_], _ => rfl) ?len (fun cdv A outer s H vs Q E hr nd hu tk bo h => ?body)
  case len =>
    rintro vs H Q E ⟨r, B, dx, rfl, _⟩
    rfl
  case body =>
    have po := bo.po; refine ⟨_, (pss_cons (ps_fld (pv 0) (pe_lst pa_nil) rfl)
    (pss_cons (ps_fld (pv 0) pe_bl rfl)
    (pss_one (ps_fld (pv 0) (pe_lst pa_nil) rfl)))), ?_⟩
    obtain ⟨r, B, dx, rfl, h1, sm, br, hq⟩ := h
    clear tk po bo
    walk_at "x"
    refine ⟨by decide, fun T hT => ?_⟩
    have n1 : r ≠ T := ne_of_none h1 hT
    simp only [tSeq, tNext, tAsg, gName, tRet, tRetN, tIfS, tOp, tUn, rI, rI0, rU, tTest, tB, tAnd, tOr, tNot, tAndV, tOrV, tNotV, tIf, tCons, tNil, tTup, tLst, tCall, tCallS, tMeth, tMake, tFld, sFld, tBM, tBM0, tCB, tSl, tPart, tNoPart, tDrop, tPar, tPar3, tAug, ipI, gTup, gCons, gNil, gSub, rSetL, rAppend, rPop, rIxL, rIxS, rIxT, rEq, rNe, tChain, tNever, tThen, tVar, tC, L2.start, List.map_cons, List.map_nil, List.length_cons, List.length_nil, List.replicate_succ, List.replicate_zero, List.append_nil, List.nil_append, List.cons_append, Nat.reduceAdd, Nat.reduceSub, Nat.add_zero, Nat.zero_add, Nat.sub_zero, Nat.sub_self,
  List.getElem?_cons_zero, List.getElem?_cons_succ, Option.some.injEq, exists_eq_left', exists_eq_left, exists_eq', exists_eq, exists_and_left, List.set_cons_zero, List.set_cons_succ, V.int.injEq, V.bl.injEq, V.str.injEq, V.ref.injEq, V.ty.injEq, List.cons.injEq, and_true, true_and, and_assoc, if_true, if_false, Bool.false_eq_true, reduceCtorEq, false_and, and_false, exists_false, false_or, or_false, Bool.not_true, Bool.not_false, decide_eq_true_eq, ite_true, ite_false, WE, cxOf_K, cxOf_mg, rSlS, scal, wipe, mem_low, mem_dig, mem_brk, mem_brk4, sgn_inj, Bool.decide_eq_true, HO.ins.injEq, HO.lst.injEq, HO.tup.injEq, upd_same, ne_eq, not_false_eq_true, h1, upd_ne n1, upd_ne n1.symm]
    refine ⟨W.cls 21, W.noat 51, by decide, W.cls 21, W.noat 52, Nat.lt_of_le_of_lt (length_putF _ _ _) (by decide), by decide, fun L hL => ?_⟩
    have n2 : L ≠ r := by rintro rfl; rw [upd_same] at hL; cases hL
    rw [upd_ne n2, upd_ne n2] at hL
    have n3 : L ≠ T := by rintro rfl; rw [upd_same] at hL; cases hL
    rw [upd_ne n3] at hL
    rw [upd_ne n2.symm, upd_same]
    refine ⟨_, _, _, rfl, W.cls 21, W.noat 53, Nat.lt_of_le_of_lt (Nat.le_trans (length_putF _ _ _) (Nat.succ_le_succ (length_putF _ _ _))) (by decide), hq _ ⟨dx, putF "told" (.ref L) (putF "ready" (.bl true) (putF "tuples" (.ref T) [])), T, L, [], ?_⟩⟩
    have bT := Same.none sm hT
    have bL := Same.none sm hL
    refine ⟨upd_same, ⟨by rw [lookup_putF, if_neg (by decide), lookup_putF, if_neg (by decide), lookup_putF, if_pos rfl], by rw [lookup_putF, if_neg (by decide), lookup_putF, if_pos rfl], by rw [lookup_putF, if_pos rfl], fun m a b c => by rw [lookup_putF, if_neg c, lookup_putF, if_neg b, lookup_putF, if_neg a]; rfl⟩, Nat.lt_of_le_of_lt (Nat.le_trans (length_putF _ _ _) (Nat.succ_le_succ (Nat.le_trans (length_putF _ _ _) (Nat.succ_le_succ (length_putF _ _ _))))) (by decide), ?_, ⟨[], ?_, .nil, rfl, Nat.zero_le _⟩, .nil, ?_, ?_, br, bT, bL, fun _ h => nomatch h⟩
    · rw [upd_ne n1.symm, upd_ne n3.symm, upd_ne n1.symm, upd_ne n1.symm, upd_same]
      rfl
    · rw [upd_ne n2, upd_same]
    · simp [n3.symm]
    · exact Same.mut (Same.mut (Same.mut (Same.mut (Same.mut sm bT) br) br) bL) br
theorem o_DataReader_item (W : Wd fa fn K mg) : OkF P w K mg base d_DataReader_item 1 ["self", "value"] (spItem K) := by
  refine okfN true W (d := d_DataReader_item) 8 sc_DataReader_item rfl rfl (fun _ _ _ _ _ _ us hl => match us, hl with | [_, _], _ => rfl) ?len (fun cdv A outer s H vs Q E hr nd hu tk bo h => ?body)
  case len =>
    rintro vs H Q E ⟨a, b, _, _, _, _, rfl, _⟩
    rfl
  case body =>
    have po := bo.po; refine ⟨_, (pss_cons (ps_if (pt_not (pt_val (pe_fld (pv 0) rfl))) (pss_one (ps_raise rfl tk (W.pmk 18 19 rfl pe_str))) pss_nil)
    (pss_cons (ps_if (pt_cmpR op_gt (pe_callB call_len (by rfl) (W.free 3) (by decide +kernel) (pa_cons (pe_fld (pv 0) rfl) pa_nil)) pe_int (nomark _)) (pss_one (ps_expr (pe_bm PySem.F.plainAttrs_list PySem.F.slot_list_append PySem.F.type_list_append mt_append (pe_ix ix_list (pe_fld (pv 0) rfl) (pe_un un_neg pe_int) (fun _ _ => rfl)) (pa_cons (pv 1) pa_nil)))) (pss_one (ps_expr (pe_bm PySem.F.plainAttrs_list PySem.F.slot_list_append PySem.F.type_list_append mt_append (pe_fld (pv 0) rfl) (pa_cons (pv 1) pa_nil)))))
    (pss_one (ps_fld (pv 0) pe_bl rfl)))), ?_⟩
    obtain ⟨r, v, d, B, n, s, rfl, hn, ⟨dx, fs, T, L, as, g⟩, hd, hi, ha⟩ := h
    clear tk po bo
    have cl := W.cls (x := "DataReader") 21
    have na1 := W.noat (x := "DataReader") (f := "tuples") 51
    have na2 := W.noat (x := "DataReader") (f := "ready") 52
    have na3 := W.noat (x := "DataReader") (f := "told") 53
    simp only [tSeq, tNext, tAsg, gName, tRet, tRetN, tIfS, tOp, tUn, rI, rI0, rU, tTest, tB, tAnd, tOr, tNot, tAndV, tOrV, tNotV, tIf, tCons, tNil, tTup, tLst, tCall, tCallS, tMeth, tMake, tFld, sFld, tBM, tBM0, tCB, tSl, tPart, tNoPart, tDrop, tPar, tPar3, tAug, ipI, gTup, gCons, gNil, gSub, rSetL, rAppend, rPop, rIxL, rIxS, rIxT, rEq, rNe, tChain, tNever, tThen, tVar, tC, L2.start, List.map_cons, List.map_nil, List.length_cons, List.length_nil, List.replicate_succ, List.replicate_zero, List.append_nil, List.nil_append, List.cons_append, Nat.reduceAdd, Nat.reduceSub, Nat.add_zero, Nat.zero_add, Nat.sub_zero, Nat.sub_self,
  List.getElem?_cons_zero, List.getElem?_cons_succ, Option.some.injEq, exists_eq_left', exists_eq_left, exists_eq', exists_eq, exists_and_left, List.set_cons_zero, List.set_cons_succ, V.int.injEq, V.bl.injEq, V.str.injEq, V.ref.injEq, V.ty.injEq, List.cons.injEq, and_true, true_and, and_assoc, if_true, if_false, Bool.false_eq_true, reduceCtorEq, false_and, and_false, exists_false, false_or, or_false, Bool.not_true, Bool.not_false, decide_eq_true_eq, ite_true, ite_false, WE, cxOf_K, cxOf_mg, rSlS, scal, wipe, mem_low, mem_dig, mem_brk, mem_brk4, sgn_inj, Bool.decide_eq_true, HO.ins.injEq, HO.lst.injEq, HO.tup.injEq, upd_same, ne_eq, not_false_eq_true, g.hr, cl, na1, na2, na3, g.fs_.t, g.fs_.r, g.fs_.l]
    cases hb : s.ready with
    | false =>
      refine iteT ?_
      simp only [RS.item, hb] at ha
      exact ha H g.sm
    | true =>
      refine iteF ?_
      obtain ⟨rows, rd, told⟩ := s
      simp only at hb
      subst hb
      have ln := g.hs.len
      simp only at ln
      refine ⟨as.length, .inl ⟨_, SqL.of g.ht, by simp⟩, ?_⟩
      have g' := id g
      cases rows with
      | nil =>
        rw [if_neg (by rw [ln]; decide)]
        obtain ⟨vs, hv, h2, h3, h4⟩ := id g.hl
        simp only at h4 h2
        have hl := DpAll.length h2
        refine ⟨tyLst hv, vs, hv, by rw [hl, sizeLine_eq]; omega, ?_⟩
        rw [upd_ne g.r_l]
        refine ⟨_, _, _, g.hr, cl, na2, by have := g.fl; omega, ?_⟩
        exact ha _ ⟨_, _, _, _, _, (g.toldAdd hv hd hi).ready false⟩
      | cons row rest =>
        rw [if_pos (by rw [ln, List.length_cons]; omega)]
        obtain ⟨a, as', rfl⟩ : ∃ a as', as = a :: as' := by
          cases as with
          | nil => simp at ln
          | cons a as' => exact ⟨a, as', rfl⟩
        obtain ⟨vs, hv, h2, h3, h4⟩ : Row K H n a row := by
          cases g.hs with
          | cons h1 h2 => exact h1
        have hl := DpAll.length h2
        refine ⟨_, SqL.of g.ht, _, last_ref, tyLst hv, a, rfl, vs, hv, by rw [hl, sizeLine_eq]; omega, ?_⟩
        rw [upd_ne (g.r_s a (List.mem_cons_self ..))]
        refine ⟨_, _, _, g.hr, cl, na2, by have := g.fl; omega, ?_⟩
        exact ha _ ⟨_, _, _, _, _, (g.rowAdd hv hd hi).ready false⟩
theorem o_DataReader_open_one (W : Wd fa fn K mg) : OkF P w K mg base d_DataReader_open_one 1 ["self"] (spOne K RS.open_) := by
  refine okfN true W (d := d_DataReader_open_one) 9 sc_DataReader_open_one rfl rfl (fun _ _ _ _ _ _ us hl => match us, hl with | [_], _ => rfl) ?len (fun cdv A outer s H vs Q E hr nd hu tk bo h => ?body)
  case len =>
    rintro vs H Q E ⟨a, _, _, _, rfl, _⟩
    rfl
  case body =>
    have po := bo.po; refine ⟨_, (pss_cons (ps_if (PW.pt (pw_or (pt_not (pt_val (pe_fld (pv 0) rfl))) (pw_or1 (pt_cmpR op_ge (pe_callB call_len (by rfl) (W.free 3) (by decide +kernel) (pa_cons (pe_fld (pv 0) rfl) pa_nil)) (C8.pe_gc rfl (W.intV 15)) (nomark _))))) (pss_one (ps_raise rfl tk (W.pmk 18 19 rfl pe_str))) pss_nil)
    (pss_one (ps_expr (pe_bm PySem.F.plainAttrs_list PySem.F.slot_list_append PySem.F.type_list_append mt_append (pe_fld (pv 0) rfl) (pa_cons (pe_lst pa_nil) pa_nil))))), ?_⟩
    obtain ⟨r, B, n, s, rfl, hn, ⟨dx, fs, T, L, as, g⟩, ha⟩ := h
    clear tk po bo
    have cl := W.cls (x := "DataReader") 21
    have na1 := W.noat (x := "DataReader") (f := "tuples") 51
    have na2 := W.noat (x := "DataReader") (f := "ready") 52
    have na3 := W.noat (x := "DataReader") (f := "told") 53
    simp only [tSeq, tNext, tAsg, gName, tRet, tRetN, tIfS, tOp, tUn, rI, rI0, rU, tTest, tB, tAnd, tOr, tNot, tAndV, tOrV, tNotV, tIf, tCons, tNil, tTup, tLst, tCall, tCallS, tMeth, tMake, tFld, sFld, tBM, tBM0, tCB, tSl, tPart, tNoPart, tDrop, tPar, tPar3, tAug, ipI, gTup, gCons, gNil, gSub, rSetL, rAppend, rPop, rIxL, rIxS, rIxT, rEq, rNe, tChain, tNever, tThen, tVar, tC, L2.start, List.map_cons, List.map_nil, List.length_cons, List.length_nil, List.replicate_succ, List.replicate_zero, List.append_nil, List.nil_append, List.cons_append, Nat.reduceAdd, Nat.reduceSub, Nat.add_zero, Nat.zero_add, Nat.sub_zero, Nat.sub_self,
  List.getElem?_cons_zero, List.getElem?_cons_succ, Option.some.injEq, exists_eq_left', exists_eq_left, exists_eq', exists_eq, exists_and_left, List.set_cons_zero, List.set_cons_succ, V.int.injEq, V.bl.injEq, V.str.injEq, V.ref.injEq, V.ty.injEq, List.cons.injEq, and_true, true_and, and_assoc, if_true, if_false, Bool.false_eq_true, reduceCtorEq, false_and, and_false, exists_false, false_or, or_false, Bool.not_true, Bool.not_false, decide_eq_true_eq, ite_true, ite_false, WE, cxOf_K, cxOf_mg, rSlS, scal, wipe, mem_low, mem_dig, mem_brk, mem_brk4, sgn_inj, Bool.decide_eq_true, HO.ins.injEq, HO.lst.injEq, HO.tup.injEq, upd_same, ne_eq, not_false_eq_true, g.hr, cl, na1, na2, na3, g.fs_.t, g.fs_.r, g.fs_.l]
    cases hb : s.ready with
    | false =>
      refine iteT ?_
      simp only [RS.open_, hb] at ha
      exact ha H g.sm
    | true =>
      refine iteF ?_
      have ln := g.hs.len
      refine ⟨as.length, .inl ⟨_, SqL.of g.ht, by simp⟩, ?_⟩
      simp only [RS.open_, hb, Bool.true_and] at ha
      by_cases h1 : s.rows.length < 1000
      · rw [if_neg (by omega)]
        rw [decide_eq_true h1] at ha
        refine ⟨tyLst g.ht, by decide, fun p hp => ?_⟩
        have np : T ≠ p := ne_of_none g.ht hp
        rw [upd_ne np]
        refine ⟨_, g.ht, by simp only [List.length_reverse, List.length_map, sizeLine_eq]; omega, ?_⟩
        have g1 := g.aside (o := .lst []) hp
        have bp := Same.none g.sm hp
        have pl : p ≠ L := by
          obtain ⟨vs, hv, _⟩ := g.hl
          exact (ne_of_none hv hp).symm
        have ps : ∀ a ∈ as, p ≠ a := fun a ha => by
          obtain ⟨vs, hv⟩ := g.hs.some a ha
          exact (ne_of_none hv hp).symm
        have t : Tx (upd H p (.lst [])) (upd (upd H p (.lst [])) T (.lst ((as.map V.ref).reverse ++ [.ref p]))) := Tx.up g1.ht noTup_l
        refine ha _ ⟨dx, fs, T, L, p :: as, ?_⟩
        have e1 : ∀ (H' : Hp) (m : Nat), H' p = some (.lst []) → Row K H' m p [] := fun H' m e => ⟨[], e, .nil, rfl, Nat.zero_le _⟩
        have l1 := g1.hl.tx t (upd_ne g1.t_l.symm)
        have s1 := g1.hs.tx t fun a ha => upd_ne (g1.t_s a ha).symm
        refine ⟨by rw [upd_ne g1.r_t]; exact g1.hr, by have q := g.fs_; rw [hb] at q; exact q, g.fl, ?_, l1.up (by omega), .cons (e1 _ _ (by rw [upd_ne np.symm, upd_same])) (s1.up (by omega)), ?_, Same.mut g1.sm g.bt, g.br, g.bt, g.bl, fun a ha => ?_⟩
        · rw [upd_same]
          simp
        · refine List.nodup_cons.mpr ⟨fun h => ?_, List.nodup_cons.mpr ⟨fun h => ?_, List.nodup_cons.mpr ⟨fun h => ps p h rfl, (List.nodup_cons.mp (List.nodup_cons.mp g.nd).2).2⟩⟩⟩
          · rcases List.mem_cons.mp h with h | h
            · exact g.t_l h
            · rcases List.mem_cons.mp h with h | h
              · exact np h
              · exact g.t_s _ h rfl
          · rcases List.mem_cons.mp h with h | h
            · exact pl h.symm
            · exact g.l_s _ h rfl
        · rcases List.mem_cons.mp ha with rfl | ha
          · exact bp
          · exact g.bs a ha
      · rw [if_pos (by omega)]
        rw [decide_eq_false h1] at ha
        exact ha H g.sm
theorem o_DataReader_comma (W : Wd fa fn K mg) : OkF P w K mg base d_DataReader_comma 1 ["self"] (spOne K RS.comma) := by
  refine okfN true W (d := d_DataReader_comma) 11 sc_DataReader_comma rfl rfl (fun _ _ _ _ _ _ us hl => match us, hl with | [_], _ => rfl) ?len (fun cdv A outer s H vs Q E hr nd hu tk bo h => ?body)
  case len =>
    rintro vs H Q E ⟨a, _, _, _, rfl, _⟩
    rfl
  case body =>
    have po := bo.po; refine ⟨_, (pss_cons (ps_if (PW.pt (pw_or (pt_val (pe_fld (pv 0) rfl)) (pw_or1 (pt_cmpR op_eq (pe_callB call_len (by rfl) (W.free 3) (by decide +kernel) (pa_cons (pe_fld (pv 0) rfl) pa_nil)) pe_int (nomark _))))) (pss_one (ps_raise rfl tk (W.pmk 18 19 rfl pe_str))) pss_nil)
    (pss_one (ps_fld (pv 0) pe_bl rfl))), ?_⟩
    obtain ⟨r, B, n, s, rfl, hn, ⟨dx, fs, T, L, as, g⟩, ha⟩ := h
    clear tk po bo
    have cl := W.cls (x := "DataReader") 21
    have na1 := W.noat (x := "DataReader") (f := "tuples") 51
    have na2 := W.noat (x := "DataReader") (f := "ready") 52
    have na3 := W.noat (x := "DataReader") (f := "told") 53
    simp only [tSeq, tNext, tAsg, gName, tRet, tRetN, tIfS, tOp, tUn, rI, rI0, rU, tTest, tB, tAnd, tOr, tNot, tAndV, tOrV, tNotV, tIf, tCons, tNil, tTup, tLst, tCall, tCallS, tMeth, tMake, tFld, sFld, tBM, tBM0, tCB, tSl, tPart, tNoPart, tDrop, tPar, tPar3, tAug, ipI, gTup, gCons, gNil, gSub, rSetL, rAppend, rPop, rIxL, rIxS, rIxT, rEq, rNe, tChain, tNever, tThen, tVar, tC, L2.start, List.map_cons, List.map_nil, List.length_cons, List.length_nil, List.replicate_succ, List.replicate_zero, List.append_nil, List.nil_append, List.cons_append, Nat.reduceAdd, Nat.reduceSub, Nat.add_zero, Nat.zero_add, Nat.sub_zero, Nat.sub_self,
  List.getElem?_cons_zero, List.getElem?_cons_succ, Option.some.injEq, exists_eq_left', exists_eq_left, exists_eq', exists_eq, exists_and_left, List.set_cons_zero, List.set_cons_succ, V.int.injEq, V.bl.injEq, V.str.injEq, V.ref.injEq, V.ty.injEq, List.cons.injEq, and_true, true_and, and_assoc, if_true, if_false, Bool.false_eq_true, reduceCtorEq, false_and, and_false, exists_false, false_or, or_false, Bool.not_true, Bool.not_false, decide_eq_true_eq, ite_true, ite_false, WE, cxOf_K, cxOf_mg, rSlS, scal, wipe, mem_low, mem_dig, mem_brk, mem_brk4, sgn_inj, Bool.decide_eq_true, HO.ins.injEq, HO.lst.injEq, HO.tup.injEq, upd_same, ne_eq, not_false_eq_true, g.hr, cl, na1, na2, na3, g.fs_.t, g.fs_.r, g.fs_.l]
    cases hb : s.ready with
    | true =>
      refine iteT ?_
      simp only [RS.comma, hb] at ha
      exact ha H g.sm
    | false =>
      refine iteF ?_
      have ln := g.hs.len
      refine ⟨as.length, .inl ⟨_, SqL.of g.ht, by simp⟩, ?_⟩
      simp only [RS.comma, hb, Bool.false_or] at ha
      cases hr : s.rows with
      | nil =>
        rw [hr] at ln ha
        rw [if_pos (by rw [ln]; rfl)]
        exact ha H g.sm
      | cons row rest =>
        rw [hr] at ln ha
        rw [if_neg (by rw [ln, List.length_cons]; omega)]
        refine ⟨by have := g.fl; omega, ?_⟩
        refine ha _ ⟨dx, putF "ready" (.bl true) fs, T, L, as, ?_⟩
        have g2 := g.ready true
        rw [hr] at g2
        exact g2.up (by omega)
theorem o_DataReader_close_one (W : Wd fa fn K mg) : OkF P w K mg base d_DataReader_close_one 2 ["self"] (spOne K RS.close) := by
  have o_DataReader_item := o_DataReader_item (P := P) (w := w) (base := base) W
  obtain ⟨fd_DataReader_item, F_DataReader_item, b_DataReader_item, k_DataReader_item⟩ := o_DataReader_item.ex
  refine okfN true W (d := d_DataReader_close_one) 10 sc_DataReader_close_one rfl rfl (fun _ _ _ _ _ _ us hl => match us, hl with | [_], _ => rfl) ?len (fun cdv A outer s H vs Q E hr nd hu tk bo h => ?body)
  case len =>
    rintro vs H Q E ⟨a, _, _, _, rfl, _⟩
    rfl
  case body =>
    have po := bo.po; refine ⟨_, (pss_cons (ps_if (PW.pt (pw_or (pt_cmpR op_eq (pe_callB call_len (by rfl) (W.free 3) (by decide +kernel) (pa_cons (pe_fld (pv 0) rfl) pa_nil)) pe_int (nomark _)) (pw_or1 (PW.pt (pw_and (pt_val (pe_fld (pv 0) rfl)) (pw_and1 (pt_cmpR op_gt (pe_callB call_len (by rfl) (W.free 3) (by decide +kernel) (pa_cons (pe_ix ix_list (pe_fld (pv 0) rfl) (pe_un un_neg pe_int) (fun _ _ => rfl)) pa_nil)) pe_int (nomark _)))))))) (pss_one (ps_raise rfl tk (W.pmk 18 19 rfl pe_str))) pss_nil)
    (pss_cons (ps_set (i := 1) nd rfl (by first | exact Or.inl rfl | exact Or.inr rfl) (pe_callTy call_tuple_of (by rfl) (W.free 4) (by decide +kernel) (pa_cons (pe_bm0 PySem.F.plainAttrs_list PySem.F.slot_list_pop PySem.F.type_list_pop mt_pop (pe_fld (pv 0) rfl)) pa_nil)))
    (pss_cons (ps_fld (pv 0) pe_bl rfl)
    (pss_one (ps_expr (pe_meth (pv 0) (W.cls 21) (W.meth 22) F_DataReader_item (hr.mono (by first | decide | omega)) b_DataReader_item .nil (passes_call tk (fun _ _ _ _ h => h)) (pa_cons (pv 1) pa_nil))))))), ?_⟩
    obtain ⟨r, B, n, s, rfl, hn, ⟨dx, fs, T, L, as, g⟩, ha⟩ := h
    clear tk po bo
    have cl := W.cls (x := "DataReader") 21
    have na1 := W.noat (x := "DataReader") (f := "tuples") 51
    have na2 := W.noat (x := "DataReader") (f := "ready") 52
    have na3 := W.noat (x := "DataReader") (f := "told") 53
    simp only [tSeq, tNext, tAsg, gName, tRet, tRetN, tIfS, tOp, tUn, rI, rI0, rU, tTest, tB, tAnd, tOr, tNot, tAndV, tOrV, tNotV, tIf, tCons, tNil, tTup, tLst, tCall, tCallS, tMeth, tMake, tFld, sFld, tBM, tBM0, tCB, tSl, tPart, tNoPart, tDrop, tPar, tPar3, tAug, ipI, gTup, gCons, gNil, gSub, rSetL, rAppend, rPop, rIxL, rIxS, rIxT, rEq, rNe, tChain, tNever, tThen, tVar, tC, L2.start, List.map_cons, List.map_nil, List.length_cons, List.length_nil, List.replicate_succ, List.replicate_zero, List.append_nil, List.nil_append, List.cons_append, Nat.reduceAdd, Nat.reduceSub, Nat.add_zero, Nat.zero_add, Nat.sub_zero, Nat.sub_self,
  List.getElem?_cons_zero, List.getElem?_cons_succ, Option.some.injEq, exists_eq_left', exists_eq_left, exists_eq', exists_eq, exists_and_left, List.set_cons_zero, List.set_cons_succ, V.int.injEq, V.bl.injEq, V.str.injEq, V.ref.injEq, V.ty.injEq, List.cons.injEq, and_true, true_and, and_assoc, if_true, if_false, Bool.false_eq_true, reduceCtorEq, false_and, and_false, exists_false, false_or, or_false, Bool.not_true, Bool.not_false, decide_eq_true_eq, ite_true, ite_false, WE, cxOf_K, cxOf_mg, rSlS, scal, wipe, mem_low, mem_dig, mem_brk, mem_brk4, sgn_inj, Bool.decide_eq_true, HO.ins.injEq, HO.lst.injEq, HO.tup.injEq, upd_same, ne_eq, not_false_eq_true, g.hr, cl, na1, na2, na3, g.fs_.t, g.fs_.r, g.fs_.l]
    have ln := g.hs.len
    refine ⟨as.length, .inl ⟨_, SqL.of g.ht, by simp⟩, ?_⟩
    obtain ⟨rows, rd, told⟩ := s
    simp only at ln
    cases rows with
    | nil =>
      rw [if_pos (by rw [ln]; rfl)]
      exact ha H g.sm
    | cons row rest =>
      obtain ⟨a, as', rfl⟩ : ∃ a as', as = a :: as' := by
        cases as with
        | nil => simp at ln
        | cons a as' => exact ⟨a, as', rfl⟩
      rw [if_neg (by rw [List.length_cons]; omega)]
      obtain ⟨vs, hv, h2, h3, h4⟩ : Row K H n a row := by
        cases g.hs with
        | cons h1 h2 => exact h1
      have hl := DpAll.length h2
      have hx : ((a :: as').map V.ref).reverse = (as'.map V.ref).reverse ++ [.ref a] := by simp
      have ht : H T = some (.lst ((as'.map V.ref).reverse ++ [.ref a])) := by rw [← hx]; exact g.ht
      have fin : (rd && decide (0 < row.length)) = false → ∀ l, upd H T (.lst (as'.map V.ref).reverse) l = none → ∃ x_4 x_5 x_6, upd (upd H T (.lst (as'.map V.ref).reverse)) l (.tup vs) r = some (.ins x_4 x_5 x_6) ∧ Cls K x_4 ∧ NoAttr K x_4 (Str.ofString "ready") ∧ x_6.length < 1000 ∧ x_4 = He.ga K d_DataReader_item.at_.fst ∧
          List.lookup (Str.ofString "item") (putF (Str.ofString "ready") (V.bl true) x_6) = none ∧ spItem K [V.ref r, V.ref l] (upd (upd (upd H T (.lst (as'.map V.ref).reverse)) l (.tup vs)) r (.ins x_4 x_5 (putF (Str.ofString "ready") (V.bl true) x_6))) (fun x H1 => Q V.non H1) E := by
        intro h0 l hl0
        have g1 := g.popRow
        have g2 := g1.aside (o := .tup vs) hl0
        have g3 := g2.ready true
        refine ⟨_, _, _, g2.hr, cl, na2, by have := g.fl; omega, rfl, g3.fs_.o _ (by decide) (by decide) (by decide), r, .ref l, .tuple row, B, n + 3, ⟨rest, true, told⟩, rfl, by omega, ⟨_, _, _, _, _, g3⟩, ?_, ?_, ?_⟩
        · have nr : l ≠ r := fun e => by rw [e, g1.hr] at hl0; cases hl0
          refine .tup (SqT.of (by rw [upd_ne nr, upd_same])) ?_
          have t1 : Tx H (upd H T (.lst (as'.map V.ref).reverse)) := Tx.up g.ht noTup_l
          have t2 : Tx (upd H T (.lst (as'.map V.ref).reverse)) (upd (upd H T (.lst (as'.map V.ref).reverse)) l (.tup vs)) := Tx.nw hl0
          exact DpAll.tx ((t1.trans t2).trans (Tx.up g2.hr noTup_i)) h3 h2
        · simpa [imm] using h3
        · simp only [RS.close, h0] at ha
          have e : ∀ o : Option RS, Ans K B (n + 6) r Q E o → Ans K B (n + 3 + 2) r (fun _ H1 => Q V.non H1) E o := by
            intro o
            cases o with
            | none => exact fun h => h
            | some s => exact fun h H' ⟨q1, q2, q3, q4, q5, q⟩ => h H' ⟨q1, q2, q3, q4, q5, q.up (by omega)⟩
          exact e _ ha
      have hT : SqL K (upd H T (.lst (as'.map V.ref).reverse)) a vs := SqL.of (by rw [upd_ne (g.t_s a (List.mem_cons_self ..)).symm]; exact hv)
      have ix : ((as'.map V.ref).reverse ++ [V.ref a])[((as'.map V.ref).reverse ++ [V.ref a]).length - 1]? = some (.ref a) := by simp
      have dl : ((as'.map V.ref).reverse ++ [V.ref a]).dropLast = (as'.map V.ref).reverse := List.dropLast_concat
      cases rd with
      | false =>
        refine iteF ⟨tyLst g.ht, _, ht, _, ix, a, rfl, vs, .inl ⟨by rw [dl]; exact hT, ?_⟩⟩
        rw [dl]
        exact fin rfl
      | true =>
        refine iteT ⟨_, SqL.of g.ht, _, last_ref, vs.length, .inl ⟨_, SqL.of hv, rfl⟩, ?_⟩
        by_cases h0 : 0 < row.length
        · rw [if_pos (by rw [hl]; omega)]
          simp only [RS.close, decide_eq_true h0] at ha
          exact ha H g.sm
        · rw [if_neg (by rw [hl]; omega)]
          refine ⟨tyLst g.ht, _, ht, _, ix, a, rfl, vs, .inl ⟨by rw [dl]; exact hT, ?_⟩⟩
          rw [dl]
          exact fin (by rw [decide_eq_false h0]; rfl)
end
end WW

set_option maxHeartbeats 4000000
namespace WW
open PySem PySem.Spec PyProof.Rows L2
local macro_rules | `(tactic| walk_at "x") => `(tactic| simp only [tSeq, tNext, tAsg, gName, tRet, tRetN, tIfS, tOp, tUn, rI, rI0, rU, tTest, tB, tAnd, tOr, tNot, tAndV, tOrV, tNotV, tIf, tCons, tNil, tTup, tLst, tCall, tCallS, tMeth, tMake, tFld, sFld, tBM, tBM0, tCB, tSl, tPart, tNoPart, tDrop, tPar, tPar3, tAug, ipI, gTup, gCons, gNil, gSub, rSetL, rAppend, rPop, rIxL, rIxS, rIxT, rEq, rNe, tChain, tNever, tThen, tVar, tC, L2.start, List.map_cons, List.map_nil, List.length_cons, List.length_nil, List.replicate_succ, List.replicate_zero, List.append_nil, List.nil_append, List.cons_append, Nat.reduceAdd, Nat.reduceSub, Nat.add_zero, Nat.zero_add, Nat.sub_zero, Nat.sub_self,
  List.getElem?_cons_zero, List.getElem?_cons_succ, Option.some.injEq, exists_eq_left', exists_eq_left, exists_eq', exists_eq, exists_and_left, List.set_cons_zero, List.set_cons_succ, V.int.injEq, V.bl.injEq, V.str.injEq, V.ref.injEq, V.ty.injEq, List.cons.injEq, and_true, true_and, and_assoc, if_true, if_false, Bool.false_eq_true, reduceCtorEq, false_and, and_false, exists_false, false_or, or_false, Bool.not_true, Bool.not_false, decide_eq_true_eq, ite_true, ite_false, WE, cxOf_K, cxOf_mg, rSlS, scal, wipe, mem_low, mem_dig, mem_brk, mem_brk4, sgn_inj, Bool.decide_eq_true])

theorem ob_lit : Str.ofString "[" = S [91] := by decide +kernel
theorem cb_lit : Str.ofString "]" = S [93] := by decide +kernel
theorem co_lit : Str.ofString "," = S [44] := by decide +kernel
theorem str_S {z : Str} {l : List Nat} : z = S l ↔ z.cps.toList = l := ⟨fun h => by rw [h]; rfl, fun h => by rw [← h]; rfl⟩
section
variable {K : PySem.W.Frag} {B H H' : Hp} {n : Nat} {r dx T L : Addr} {s : RS} {fs : List (Str × V)} {as : List Addr}
theorem Row.same {a : Addr} {ds : List PyData} (t : Same H H') (h : Row K H n a ds) : Row K H' n a ds := by
  obtain ⟨vs, h1, h2, h3, h4⟩ := h
  exact ⟨vs, t _ _ h1, Dp.sms t ds _ h2, h3, h4⟩
theorem RowsOk.same {dss : List (List PyData)} (t : Same H H') (h : RowsOk K H n as dss) : RowsOk K H' n as dss := by
  induction h with
  | nil => exact .nil
  | cons a b ih => exact .cons (a.same t) ih
theorem RdB.same (t : Same H H') (g : RdB K B n H r s dx fs T L as) : RdB K B n H' r s dx fs T L as :=
  ⟨t _ _ g.hr, g.fs_, g.fl, t _ _ g.ht, g.hl.same t, g.hs.same t, g.nd, Same.trans g.sm t, g.br, g.bt, g.bl, g.bs⟩
def cutB (H : Hp) (l : List Addr) : Hp := fun a => if a ∈ l then none else H a
theorem RdB.rebase (g : RdB K B n H r s dx fs T L as) : RdB K (cutB H (r :: T :: L :: as)) n H r s dx fs T L as ∧ Same B (cutB H (r :: T :: L :: as)) := by
  have z : ∀ a, a ∈ r :: T :: L :: as → cutB H (r :: T :: L :: as) a = none := fun a ha => if_pos ha
  refine ⟨⟨g.hr, g.fs_, g.fl, g.ht, g.hl, g.hs, g.nd, fun a o e => ?_, z _ (by simp), z _ (by simp), z _ (by simp), fun a ha => z _ (by simp [ha])⟩, fun a o e => ?_⟩
  · unfold cutB at e
    split at e
    · cases e
    · exact e
  · unfold cutB
    rw [if_neg]
    · exact g.sm _ _ e
    · intro h
      have h : a = r ∨ a = T ∨ a = L ∨ a ∈ as := by simpa using h
      have bn : B a = none := by
        rcases h with rfl | rfl | rfl | h
        · exact g.br
        · exact g.bt
        · exact g.bl
        · exact g.bs _ h
      rw [bn] at e
      cases e
end
def spTake (K : PySem.W.Frag) : Sp := fun vs H Q E => ∃ r z B n s, vs = [.ref r, .str z] ∧ n ≤ 800000 ∧ z.length ≤ 1000000 ∧ Rd K B n H r s ∧ Ans K B (n + 8) r Q E (s.take z.cps.toList)
/-- all pieces -/
def takes (s : RS) : List (List Nat) → Option RS
  | [] => some s
  | p :: ps => (s.take p).bind fun s' => takes s' ps
def doneR : Option RS → Option PyData
  | some ⟨[], _, [d]⟩ => some d
  | _ => none
def readR (l : List Nat) : Option PyData := doneR (takes ⟨[], true, []⟩ (pcs [] l))
def readD : PyData → Option PyData
  | .str z => readR z.cps.toList
  | _ => none
theorem pcs_len' : ∀ (l t : List Nat), (pcs t l).length ≤ 2 * l.length + (if t = [] then 0 else 1)
  | [], t => by
    rw [pcs_nil]
    split <;> simp
  | c :: l, t => by
    rw [pcs_cons]
    split
    · have := pcs_len' l []
      rw [if_pos rfl] at this
      rw [List.length_append, List.length_cons, List.length_cons]
      split <;> simp <;> omega
    · have := pcs_len' l (t ++ [c])
      rw [if_neg (by simp)] at this
      rw [List.length_cons]
      split <;> omega
theorem pcs_each : ∀ (l t p : List Nat), p ∈ pcs t l → p.length ≤ t.length + l.length + 1
  | [], t, p, h => by
    rw [pcs_nil] at h
    split at h
    · cases h
    · rw [List.mem_singleton.mp h]; omega
  | c :: l, t, p, h => by
    rw [pcs_cons] at h
    split at h
    · rcases List.mem_append.mp h with h | h
      · split at h
        · cases h
        · rw [List.mem_singleton.mp h]; omega
      · rcases List.mem_cons.mp h with rfl | h
        · simp
        · have := pcs_each l [] p h
          rw [List.length_nil] at this
          rw [List.length_cons]
          omega
    · have := pcs_each l (t ++ [c]) p h
      rw [List.length_append, List.length_singleton] at this
      rw [List.length_cons]
      omega
theorem pcs_len (l : List Nat) : (pcs [] l).length ≤ 2 * l.length := by
  have := pcs_len' l []
  rw [if_pos rfl] at this
  omega
/-- what a def answers: data or Malformed -/
def AnsD (K : PySem.W.Frag) (H : Hp) (Q : VK) (E : XK) : Option PyData → Prop
  | some d => ∀ v H', Same H H' → Dp K H' v d → imm d = true → Q v H'
  | none => ∀ H', Same H H' → ∀ {y : Str}, tX (mal K) y H' E
def spRead (K : PySem.W.Frag) : Sp := fun vs H Q E => ∃ x d, vs = [x] ∧ Dp K H x d ∧ (∀ z, x = .str z → z.length ≤ 50000) ∧ AnsD K H Q E (readD d)
section
variable {P : Program} {w : World} {K : PySem.W.Frag} {mg : Str → Option Value} {base : Heap}
theorem Ans.up {K : PySem.W.Frag} {B : Hp} {n m : Nat} {r : Addr} {Q : VK} {E : XK} (h : n ≤ m) : ∀ {o : Option RS}, Ans K B m r Q E o → Ans K B n r (fun x H1 => Q V.non H1) E o
  | none, q => q
  | some s, q => fun H' ⟨q1, q2, q3, q4, q5, q6⟩ => q H' ⟨q1, q2, q3, q4, q5, q6.up h⟩
theorem o_DataReader_take (W : Wd fa fn K mg) : OkF P w K mg base d_DataReader_take 3 ["self", "piece"] (spTake K) := by
  have o_DataReader_item := (o_DataReader_item (P := P) (w := w) (base := base) W).mono (show 1 ≤ 2 by decide)
  have o_DataReader_open_one := (o_DataReader_open_one (P := P) (w := w) (base := base) W).mono (show 1 ≤ 2 by decide)
  have o_DataReader_comma := (o_DataReader_comma (P := P) (w := w) (base := base) W).mono (show 1 ≤ 2 by decide)
  have o_DataReader_close_one := o_DataReader_close_one (P := P) (w := w) (base := base) W
  have o_is_word := (o_is_word (P := P) (w := w) (base := base) W).mono (show 1 ≤ 2 by decide)
  have o_read_whole := (o_read_whole (P := P) (w := w) (base := base) W).mono (show 1 ≤ 2 by decide)
  obtain ⟨fd_DataReader_open_one, F_DataReader_open_one, b_DataReader_open_one, k_DataReader_open_one⟩ := o_DataReader_open_one.ex; obtain ⟨fd_DataReader_close_one, F_DataReader_close_one, b_DataReader_close_one, k_DataReader_close_one⟩ := o_DataReader_close_one.ex; obtain ⟨fd_DataReader_comma, F_DataReader_comma, b_DataReader_comma, k_DataReader_comma⟩ := o_DataReader_comma.ex; obtain ⟨fd_DataReader_item, F_DataReader_item, b_DataReader_item, k_DataReader_item⟩ := o_DataReader_item.ex; obtain ⟨fd_is_word, F_is_word, b_is_word, k_is_word⟩ := o_is_word.ex; obtain ⟨fd_read_whole, F_read_whole, b_read_whole, k_read_whole⟩ := o_read_whole.ex
  refine okfN true W (d := d_DataReader_take) 12 sc_DataReader_take rfl rfl (fun _ _ _ _ _ _ us hl => match us, hl with | [_, _], _ => rfl) ?len (fun cdv A outer s H vs Q E hr nd hu tk bo h => ?body)
  case len =>
    rintro vs H Q E ⟨_, _, _, _, _, rfl, _⟩
    rfl
  case body =>
    have po := bo.po; refine ⟨_, (pss_one (ps_if (pt_cmpR op_eq (pv 1) pe_str (nomark _)) (pss_one (ps_expr (pe_meth0 (pv 0) (W.cls 21) (W.meth 23) F_DataReader_open_one (hr.mono (by first | decide | omega)) b_DataReader_open_one .nil (passes_call tk (fun _ _ _ _ h => h))))) (pss_one (ps_if (pt_cmpR op_eq (pv 1) pe_str (nomark _)) (pss_one (ps_expr (pe_meth0 (pv 0) (W.cls 21) (W.meth 24) F_DataReader_close_one (hr.mono (by first | decide | omega)) b_DataReader_close_one .nil (passes_call tk (fun _ _ _ _ h => h))))) (pss_one (ps_if (pt_cmpR op_eq (pv 1) pe_str (nomark _)) (pss_one (ps_expr (pe_meth0 (pv 0) (W.cls 21) (W.meth 25) F_DataReader_comma (hr.mono (by first | decide | omega)) b_DataReader_comma .nil (passes_call tk (fun _ _ _ _ h => h))))) (pss_one (ps_expr (pe_meth (pv 0) (W.cls 21) (W.meth 22) F_DataReader_item (hr.mono (by first | decide | omega)) b_DataReader_item .nil (passes_call tk (fun _ _ _ _ h => h)) (pa_cons (pe_ifExp (pt_val (by exact (pe_callS F_is_word (hr.mono (by first | decide | omega)) rfl (W.glo 17) k_is_word b_is_word (fun σ => passAt tk σ) (by exact (pa_cons (pv 1) pa_nil))))) (pv 1) (by exact (pe_callS F_read_whole (hr.mono (by first | decide | omega)) rfl (W.glo 26) k_read_whole b_read_whole (fun σ => passAt tk σ) (by exact (pa_cons (pv 1) pa_nil))))) pa_nil)))))))))), ?_⟩
    obtain ⟨r, z, B, n, s, rfl, hn, hz, ⟨dx, fs, T, L, as, g⟩, ha⟩ := h
    clear tk po bo
    have cl := W.cls (x := "DataReader") 21
    have na1 := g.fs_.o (Str.ofString "item") (by decide) (by decide) (by decide)
    have na2 := g.fs_.o (Str.ofString "open_one") (by decide) (by decide) (by decide)
    have na3 := g.fs_.o (Str.ofString "close_one") (by decide) (by decide) (by decide)
    have na4 := g.fs_.o (Str.ofString "comma") (by decide) (by decide) (by decide)
    simp only [tSeq, tNext, tAsg, gName, tRet, tRetN, tIfS, tOp, tUn, rI, rI0, rU, tTest, tB, tAnd, tOr, tNot, tAndV, tOrV, tNotV, tIf, tCons, tNil, tTup, tLst, tCall, tCallS, tMeth, tMake, tFld, sFld, tBM, tBM0, tCB, tSl, tPart, tNoPart, tDrop, tPar, tPar3, tAug, ipI, gTup, gCons, gNil, gSub, rSetL, rAppend, rPop, rIxL, rIxS, rIxT, rEq, rNe, tChain, tNever, tThen, tVar, tC, L2.start, List.map_cons, List.map_nil, List.length_cons, List.length_nil, List.replicate_succ, List.replicate_zero, List.append_nil, List.nil_append, List.cons_append, Nat.reduceAdd, Nat.reduceSub, Nat.add_zero, Nat.zero_add, Nat.sub_zero, Nat.sub_self,
  List.getElem?_cons_zero, List.getElem?_cons_succ, Option.some.injEq, exists_eq_left', exists_eq_left, exists_eq', exists_eq, exists_and_left, List.set_cons_zero, List.set_cons_succ, V.int.injEq, V.bl.injEq, V.str.injEq, V.ref.injEq, V.ty.injEq, List.cons.injEq, and_true, true_and, and_assoc, if_true, if_false, Bool.false_eq_true, reduceCtorEq, false_and, and_false, exists_false, false_or, or_false, Bool.not_true, Bool.not_false, decide_eq_true_eq, ite_true, ite_false, WE, cxOf_K, cxOf_mg, rSlS, scal, wipe, mem_low, mem_dig, mem_brk, mem_brk4, sgn_inj, Bool.decide_eq_true, HO.ins.injEq, HO.lst.injEq, HO.tup.injEq, upd_same, ne_eq, not_false_eq_true, g.hr, cl, na1, na2, na3, na4, ob_lit, cb_lit, co_lit, str_S]
    simp only [RS.take] at ha
    by_cases h1 : z.cps.toList = [91]
    · rw [if_pos h1] at ha ⊢
      exact ⟨rfl, r, B, n, s, rfl, by omega, ⟨_, _, _, _, _, g⟩, Ans.up (by omega) ha⟩
    rw [if_neg h1] at ha ⊢
    by_cases h2 : z.cps.toList = [93]
    · rw [if_pos h2] at ha ⊢
      exact ⟨rfl, r, B, n, s, rfl, by omega, ⟨_, _, _, _, _, g⟩, Ans.up (by omega) ha⟩
    rw [if_neg h2] at ha ⊢
    by_cases h3 : z.cps.toList = [44]
    · rw [if_pos h3] at ha ⊢
      exact ⟨rfl, r, B, n, s, rfl, by omega, ⟨_, _, _, _, _, g⟩, Ans.up (by omega) ha⟩
    rw [if_neg h3] at ha ⊢
    refine ⟨rfl, .str z, .str z, rfl, .str z, fun y e => by cases e; exact hz, fun H1 s1 => ⟨_, rfl, ?_⟩⟩
    simp only [atomR] at ha
    rcases Bool.eq_false_or_eq_true (wordL z.cps.toList) with hw | hw
    · rw [if_pos hw] at ha
      rw [if_pos (show wordD (.str z) = true from hw)]
      exact ⟨r, .str z, .str z, B, n, s, rfl, by omega, ⟨_, _, _, _, _, g.same s1⟩, .str z, rfl, Ans.up (by omega) ha⟩
    · rw [if_neg (by rw [hw]; decide)] at ha
      rw [if_neg (by rw [show wordD (.str z) = false from hw]; decide)]
      refine ⟨z, rfl, hz, ?_, ?_⟩
      · intro i hi H2 s2
        rw [hi] at ha
        exact ⟨r, .int i, .int i, B, n, s, rfl, by omega, ⟨_, _, _, _, _, g.same (Same.trans s1 s2)⟩, .int i, rfl, Ans.up (by omega) ha⟩
      · intro hi H2 s2
        rw [hi] at ha
        exact ha H2 (Same.trans g.sm (Same.trans s1 s2))
theorem o_read_data (W : Wd fa fn K mg) : OkF P w K mg base d_read_data 4 ["text"] (spRead K) := by
  have o_DataReader___init__ := (o_DataReader___init__ (P := P) (w := w) (base := base) W).mono (show 1 ≤ 2 by decide)
  have o_pieces_of := (o_pieces_of (P := P) (w := w) (base := base) W).mono (show 1 ≤ 3 by decide)
  have o_DataReader_take := (o_DataReader_take (P := P) (w := w) (base := base) W)
  obtain ⟨fd_DataReader___init__, F_DataReader___init__, b_DataReader___init__, k_DataReader___init__⟩ := o_DataReader___init__.ex; obtain ⟨fd_pieces_of, F_pieces_of, b_pieces_of, k_pieces_of⟩ := o_pieces_of.ex; obtain ⟨fd_DataReader_take, F_DataReader_take, b_DataReader_take, k_DataReader_take⟩ := o_DataReader_take.ex
  refine okfN true W (d := d_read_data) 13 sc_read_data rfl rfl (fun _ _ _ _ _ _ us hl => match us, hl with | [_], _ => rfl) ?len (fun cdv A outer s H vs Q E hr nd hu tk bo h => ?body)
  case len =>
    rintro vs H Q E ⟨_, _, rfl, _⟩
    rfl
  case body =>
    have po := bo.po; refine ⟨_, (pss_cons (ps_if (pt_not (pt_val (pe_callB call_isiV (by rfl) (W.free 0) (by decide +kernel) (pa_cons (pv 0) (pa_cons (pe_bltn (v := .ty "str") (u := .type "str") rfl (W.free 11) (by decide +kernel) rfl) pa_nil))))) (pss_one (ps_raise rfl tk (W.pmk 18 19 rfl pe_str))) pss_nil)
    (pss_cons (ps_set (i := 1) nd rfl (by first | exact Or.inl rfl | exact Or.inr rfl) (pe_make0 (W.mkr 28) F_DataReader___init__ (hr.mono (by first | decide | omega)) rfl (W.glo 27) b_DataReader___init__ .nil passL))
    (pss_cons (ps_for po rfl (pi_list (by exact (pe_callS F_pieces_of (hr.mono (by first | decide | omega)) rfl (W.glo 29) k_pieces_of b_pieces_of (fun σ => passAt tk σ) (by exact (pa_cons (pv 0) pa_nil))))) (pg_name (i := 2) nd rfl (by first | exact Or.inl rfl | exact Or.inr rfl))
      (pss_one (ps_expr (pe_meth (pv 1) (W.cls 21) (W.meth 30) F_DataReader_take (hr.mono (by first | decide | omega)) b_DataReader_take .nil (passes_call tk (fun _ _ _ _ h => h)) (pa_cons (pv 2) pa_nil)))))
    (pss_cons (ps_if (PW.pt (pw_or (pt_cmpR op_gt (pe_callB call_len (by rfl) (W.free 3) (by decide +kernel) (pa_cons (pe_fld (pv 1) rfl) pa_nil)) pe_int (nomark _)) (pw_or1 (pt_cmpR op_ne (pe_callB call_len (by rfl) (W.free 3) (by decide +kernel) (pa_cons (pe_fld (pv 1) rfl) pa_nil)) pe_int (nomark _))))) (pss_one (ps_raise rfl tk (W.pmk 18 19 rfl pe_str))) pss_nil)
    (pss_one (ps_ret (pe_ix ix_list (pe_fld (pv 1) rfl) pe_int (fun _ _ => rfl)))))))), ?_⟩
    obtain ⟨x, d, rfl, hd, hz, ha⟩ := h
    clear tk po bo
    walk_at "x"
    simp only [rIsaV]
    walk_at "x"
    refine ⟨by decide, _, IsaV.of hd, ?_⟩
    cases hd with
    | str z =>
      have hz := hz z rfl
      have cl := W.cls (x := "DataReader") 21
      have na1 := W.noat (x := "DataReader") (f := "tuples") 51
      have na3 := W.noat (x := "DataReader") (f := "told") 53
      refine iteF fun r dx hr0 hdx hne => ?_
      refine ⟨r, H, dx, rfl, upd_same, Same.mut (Same.new hdx) hr0, hr0, fun H1 R1 => ⟨rfl, ?_⟩⟩
      obtain ⟨dx1, fs1, T1, L1, as1, g1⟩ := R1
      simp only [readD] at ha
      unfold readR at ha
      generalize hp : pcs [] z.cps.toList = ps at ha
      have lp : ps.length ≤ 2 * z.length := by
        rw [← hp]
        exact pcs_len z.cps.toList
      have hI : ∀ (R : It → Hp → Prop), (∀ D H2, Same H1 H2 → H1 D = none → H2 D = some (HO.lst ((pcs [] z.cps.toList).map fun p => V.str (S p))) → R (Itl K D) H2) → iList K (tCallS spPieces (WE fun cls dd x H => E cls dd H) (tCons (tVar 0) tNil)) [some (V.str z), some (V.ref r), none] H1 R := by
        intro R hR
        simp only [iList]
        walk_at "x"
        exact ⟨z, rfl, by omega, fun D H2 s2 hD h2 => ⟨D, rfl, ⟨_, SqL.of h2⟩, hR D H2 s2 hD h2⟩⟩
      unfold tFor
      refine hI _ fun D H2 s2 hD h2 => ?_
      rw [hp] at h2
      have g2 := g1.same s2
      have n1 : D ≠ r := fun e => by rw [e, g1.hr] at hD; cases hD
      have n2 : D ≠ T1 := fun e => by rw [e, g1.ht] at hD; cases hD
      have n3 : D ≠ L1 := fun e => by obtain ⟨vs, q, _⟩ := g1.hl; rw [e, q] at hD; cases hD
      have n4 : D ∉ as1 := fun e => by obtain ⟨vs, q⟩ := g1.hs.some D e; rw [q] at hD; cases hD
      obtain ⟨g3, sb⟩ := g2.rebase
      generalize hB : cutB H2 (r :: T1 :: L1 :: as1) = B2 at g3 sb
      have bD : B2 D = some (.lst (ps.map fun p => .str (S p))) := by
        rw [← hB]
        unfold cutB
        rw [if_neg (by simp [n1, n2, n3, n4]), h2]
      refine for_it (walk_list (K := K) (a := D) (xs := ps.map fun p => .str (S p))) (fun i σ H' => ∃ s y, σ = [some (.str z), some (.ref r), y] ∧ takes ⟨[], true, []⟩ ps = takes s (ps.drop i) ∧ Rd K B2 (8 * i) H' r s) ⟨_, _, rfl, rfl, _, _, _, _, _, g3⟩ ?_ ?_ ?_
      · rintro i σ H' hi ⟨s, y, rfl, ht, dx2, fs2, T2, Lx, as2, g⟩
        exact SqL.of (g.sm _ _ bD)
      · rintro i x σ H3 H4 hi ⟨s, y, rfl, ht, R2⟩ ⟨rfl, hx⟩
        rw [List.length_map] at hi
        have ei : ps[i]? = some ps[i] := List.getElem?_eq_getElem hi
        rw [List.getElem?_map, ei] at hx
        cases hx
        rw [drop_at ei] at ht
        walk_at "x"
        obtain ⟨dx2, fs2, T2, Lx, as2, g⟩ := id R2
        refine ⟨_, _, g.hr, g.fs_.o _ (by decide) (by decide) (by decide), r, S ps[i], B2, 8 * i, s, rfl, by omega, ?_, R2, ?_⟩
        · have := pcs_each z.cps.toList [] ps[i] (by rw [hp]; exact List.getElem_mem hi)
          rw [len_S]
          have e : z.length = z.cps.toList.length := rfl
          rw [List.length_nil] at this
          omega
        · rw [tl_S]
          rw [show takes s (ps[i] :: ps.drop (i + 1)) = (s.take ps[i]).bind (fun s' => takes s' (ps.drop (i + 1))) from rfl] at ht
          cases hs : s.take ps[i] with
          | none =>
            rw [hs] at ht
            rw [ht] at ha
            exact fun H5 s5 => ha H5 (Same.trans sb s5)
          | some s' =>
            rw [hs] at ht
            exact fun H5 R5 => ⟨s', ht, R5⟩
      · rintro σ H' ⟨s, y, rfl, ht, dx2, fs2, T2, Lx, as2, g⟩
        rw [List.length_map, List.drop_length] at ht
        rw [ht] at ha
        unfold takes at ha
        simp only [tSeq, tNext, tAsg, gName, tRet, tRetN, tIfS, tOp, tUn, rI, rI0, rU, tTest, tB, tAnd, tOr, tNot, tAndV, tOrV, tNotV, tIf, tCons, tNil, tTup, tLst, tCall, tCallS, tMeth, tMake, tFld, sFld, tBM, tBM0, tCB, tSl, tPart, tNoPart, tDrop, tPar, tPar3, tAug, ipI, gTup, gCons, gNil, gSub, rSetL, rAppend, rPop, rIxL, rIxS, rIxT, rEq, rNe, tChain, tNever, tThen, tVar, tC, L2.start, List.map_cons, List.map_nil, List.length_cons, List.length_nil, List.replicate_succ, List.replicate_zero, List.append_nil, List.nil_append, List.cons_append, Nat.reduceAdd, Nat.reduceSub, Nat.add_zero, Nat.zero_add, Nat.sub_zero, Nat.sub_self,
  List.getElem?_cons_zero, List.getElem?_cons_succ, Option.some.injEq, exists_eq_left', exists_eq_left, exists_eq', exists_eq, exists_and_left, List.set_cons_zero, List.set_cons_succ, V.int.injEq, V.bl.injEq, V.str.injEq, V.ref.injEq, V.ty.injEq, List.cons.injEq, and_true, true_and, and_assoc, if_true, if_false, Bool.false_eq_true, reduceCtorEq, false_and, and_false, exists_false, false_or, or_false, Bool.not_true, Bool.not_false, decide_eq_true_eq, ite_true, ite_false, WE, cxOf_K, cxOf_mg, rSlS, scal, wipe, mem_low, mem_dig, mem_brk, mem_brk4, sgn_inj, Bool.decide_eq_true, HO.ins.injEq, HO.lst.injEq, HO.tup.injEq, upd_same, ne_eq, not_false_eq_true, g.hr, cl, na1, na3, g.fs_.t, g.fs_.l]
        obtain ⟨rows, rd, told⟩ := s
        have ln := g.hs.len
        simp only at ln
        refine ⟨as2.length, .inl ⟨_, SqL.of g.ht, by simp⟩, ?_⟩
        have sm2 : Same H H' := Same.trans sb g.sm
        cases rows with
        | cons row rest =>
          rw [if_pos (by rw [ln, List.length_cons]; omega)]
          exact ha H' sm2
        | nil =>
          rw [if_neg (by rw [ln]; decide)]
          obtain ⟨vs, hv, h2, h3, h4⟩ := g.hl
          have hl := DpAll.length h2
          simp only at h2 h3 hl
          refine ⟨vs.length, .inl ⟨vs, SqL.of hv, rfl⟩, ?_⟩
          match told, vs, h2, h3, hl with
          | [], [], _, _, _ => exact ha H' sm2
          | [d], [v], .cons q1 _, h3, _ => exact ⟨_, SqL.of hv, _, rfl, ha v H' sm2 q1 (by simpa [imm.immAll] using h3)⟩
          | _ :: _ :: _, _ :: _ :: _, _, _, _ => exact ha H' sm2
    | _ => exact iteT (ha H (Same.refl H))
end
end WW

set_option maxHeartbeats 4000000
namespace WW
open PySem PySem.Spec PyProof.Rows L2
/-! ### what write_data gives -/
def strD : PyData → List Nat
  | .str z => z.cps.toList
  | .int i => (Str.ofString (toString i)).cps.toList
  | _ => []
mutual
def wD : Nat → PyData → Option (List Nat)
  | k, .tuple ds => if k ≤ 1000 then (wDs (k + 1) ds).map fun t => 91 :: (t ++ [93]) else none
  | _, .str z => if wordD (.str z) || shortD (.str z) then some (strD (.str z)) else none
  | _, .int i => if wordD (.int i) || shortD (.int i) then some (strD (.int i)) else none
  | _, _ => none
def wDs : Nat → List PyData → Option (List Nat)
  | _, [] => some []
  | k, d :: ds => (wD k d).bind fun a => if ds.isEmpty then some a else (wDs k ds).map fun t => a ++ 44 :: t
end
mutual
def smallD : PyData → Bool
  | .str z => decide (z.length ≤ 1000000)
  | .tuple ds => smallDs ds
  | _ => true
def smallDs : List PyData → Bool
  | [] => true
  | d :: ds => smallD d && smallDs ds
end
mutual
def szD : PyData → Nat
  | .tuple ds => 2 + szDs ds
  | _ => 1
def szDs : List PyData → Nat
  | [] => 0
  | d :: ds => szD d + 1 + szDs ds
end
def one (k : Nat) (d : PyData) : Option (List Nat) := match k, d with
  | 0, .str z => some z.cps.toList
  | 0, _ => none
  | k + 1, d => wD (k + 1) d
def pend : List (Nat × PyData) → Option (List Nat)
  | [] => some []
  | e :: l => (one e.1 e.2).bind fun a => (pend l).map fun t => a ++ t
def meas : List (Nat × PyData) → Nat
  | [] => 0
  | e :: l => szD e.2 + meas l
theorem szD_pos (d : PyData) : 1 ≤ szD d := by cases d <;> simp only [szD] <;> omega
theorem meas_len (l : List (Nat × PyData)) : l.length ≤ meas l := by
  induction l with
  | nil => exact Nat.le_refl _
  | cons e l ih =>
    have := szD_pos e.2
    rw [List.length_cons]
    simp only [meas]
    omega
theorem meas_app (a b : List (Nat × PyData)) : meas (a ++ b) = meas a + meas b := by
  induction a with
  | nil => simp [meas]
  | cons e a ih => simp only [List.cons_append, meas, ih]; omega
theorem pend_app (a b : List (Nat × PyData)) : pend (a ++ b) = (pend a).bind fun x => (pend b).map fun y => x ++ y := by
  induction a with
  | nil =>
    simp only [List.nil_append, pend, Option.bind_some]
    cases pend b <;> rfl
  | cons e a ih =>
    simp only [List.cons_append, pend, ih]
    cases one e.1 e.2 with
    | none => rfl
    | some x =>
      simp only [Option.bind_some]
      cases pend a with
      | none => rfl
      | some y =>
        simp only [Option.bind_some, Option.map_some]
        cases pend b with
        | none => rfl
        | some t => simp
def comma : PyData := .str (S [44])
def close : PyData := .str (S [93])
def cm (k : Nat) : List PyData → List (Nat × PyData)
  | [] => []
  | d :: ds => (0, comma) :: (k + 1, d) :: cm k ds
theorem cm_app (k : Nat) (a b : List PyData) : cm k (a ++ b) = cm k a ++ cm k b := by
  induction a with
  | nil => rfl
  | cons d a ih => simp [cm, ih]
theorem pend_cm (k : Nat) (ds : List PyData) : pend (cm k ds) = if ds.isEmpty then some [] else (wDs (k + 1) ds).map fun t => 44 :: t := by
  induction ds with
  | nil => rfl
  | cons d ds ih =>
    simp only [cm, pend, one, wDs, comma, tl_S, ih, Option.bind_some, List.isEmpty_cons]
    cases wD (k + 1) d with
    | none => rfl
    | some a =>
      cases ds with
      | nil => simp
      | cons e es =>
        simp only [List.isEmpty_cons, Bool.false_eq_true, if_false, Option.bind_some]
        cases wDs (k + 1) (e :: es) <;> simp
theorem pend_cm1 (k : Nat) (ds : List PyData) : pend ((cm k ds).drop 1) = wDs (k + 1) ds := by
  cases ds with
  | nil => rfl
  | cons d ds =>
    simp only [cm, List.drop_succ_cons, List.drop_zero, pend, one, pend_cm, wDs]
    cases wD (k + 1) d with
    | none => rfl
    | some a =>
      cases ds with
      | nil => simp
      | cons e es =>
        simp only [List.isEmpty_cons, Bool.false_eq_true, if_false, Option.bind_some]
        cases wDs (k + 1) (e :: es) <;> simp
theorem meas_cm (k : Nat) (ds : List PyData) : meas (cm k ds) = szDs ds := by
  induction ds with
  | nil => rfl
  | cons d ds ih => simp only [cm, meas, ih, szDs, comma, szD]; omega
theorem meas_drop (l : List (Nat × PyData)) (n : Nat) : meas (l.drop n) ≤ meas l := by
  induction l generalizing n with
  | nil => simp
  | cons e l ih =>
    cases n with
    | zero => exact Nat.le_refl _
    | succ n => simp only [List.drop_succ_cons, meas]; have := ih n; omega
/-- a tuple opened -/
theorem pend_tup {k : Nat} {ds : List PyData} {l : List (Nat × PyData)} (hk : k + 1 ≤ 1000) : pend ((k + 1, .tuple ds) :: l) = (pend ((cm (k + 1) ds).drop 1 ++ (0, close) :: l)).map fun t => 91 :: t := by
  rw [pend_app, pend_cm1]
  simp only [pend, one, wD, if_pos hk, close, tl_S]
  cases wDs (k + 1 + 1) ds with
  | none => rfl
  | some a =>
    simp only [Option.map_some, Option.bind_some]
    cases pend l with
    | none => rfl
    | some t => simp
theorem meas_tup (k : Nat) (ds : List PyData) (l : List (Nat × PyData)) : meas ((cm k ds).drop 1 ++ (0, close) :: l) + 1 ≤ meas ((k, PyData.tuple ds) :: l) := by
  have h1 := meas_drop (cm k ds) 1
  rw [meas_cm] at h1
  rw [meas_app]
  simp only [meas, szD, close]
  omega
theorem smallDs_get {ds : List PyData} (h : smallDs ds = true) {i : Nat} {d : PyData} (e : ds[i]? = some d) : smallD d = true := by
  induction ds generalizing i with
  | nil => simp at e
  | cons c ds ih =>
    simp only [smallDs, Bool.and_eq_true] at h
    cases i with
    | zero => simp at e; exact e ▸ h.1
    | succ i => exact ih h.2 (by simpa using e)
theorem joinL_nil (fs : List (List Nat)) : TL.joinL [] fs = fs.flatten := by
  induction fs with
  | nil => rfl
  | cons f fs ih =>
    cases fs with
    | nil => simp [TL.joinL]
    | cons g gs =>
      show f ++ ([] ++ TL.joinL [] (g :: gs)) = _
      rw [ih]
      simp
theorem join_S (fs : List (List Nat)) : Txt.join (Str.ofString "") (fs.map S) = S fs.flatten := by
  apply str_ext
  rw [show (Txt.join (Str.ofString "") (fs.map S)).cps.toList = TL.tl (Txt.join (Str.ofString "") (fs.map S)) from rfl, TL.join_eq, TL.tl_join]
  rw [show TL.tl (Str.ofString "") = [] by decide +kernel, List.map_map, show (TL.tl ∘ S) = id from rfl, List.map_id, joinL_nil]
  rfl
theorem lens_S (fs : List (List Nat)) : ((fs.map S).map (·.length)).sum = fs.flatten.length := by
  induction fs with
  | nil => rfl
  | cons f fs ih => simp only [List.map_cons, List.sum_cons, ih, len_S, List.flatten_cons, List.length_append]
/-! ### the stack in the heap -/
def It1 (K : PySem.W.Frag) (H0 H : Hp) (a : Addr) (e : Nat × PyData) : Prop := ∃ v, SqT K H a [v, .int ((e.1 : Nat) : Int)] ∧ Dp K H0 v e.2 ∧ smallD e.2 = true ∧ (e.1 = 0 → ∃ z, e.2 = .str z)
inductive Stk (K : PySem.W.Frag) (H0 H : Hp) : List Addr → List (Nat × PyData) → Prop
  | nil : Stk K H0 H [] []
  | cons {a e as l} : It1 K H0 H a e → Stk K H0 H as l → Stk K H0 H (a :: as) (e :: l)
theorem Stk.tx {K : PySem.W.Frag} {H0 H H' : Hp} {as : List Addr} {l : List (Nat × PyData)} (t : Tx H H') (h : Stk K H0 H as l) : Stk K H0 H' as l := by
  induction h with
  | nil => exact .nil
  | cons a b ih =>
    obtain ⟨v, h1, h2⟩ := a
    exact .cons ⟨v, t.sqt h1, h2⟩ ih
theorem Stk.len {K : PySem.W.Frag} {H0 H : Hp} {as : List Addr} {l : List (Nat × PyData)} (h : Stk K H0 H as l) : as.length = l.length := by
  induction h with
  | nil => rfl
  | cons _ _ ih => rw [List.length_cons, List.length_cons, ih]
/-- the two lists, and the rest kept -/
structure WH (K : PySem.W.Frag) (H0 H : Hp) (Wa Fa : Addr) (as : List Addr) (l : List (Nat × PyData)) (fs : List (List Nat)) : Prop where
  sm : Same H0 H
  w : H Wa = some (.lst (as.map V.ref).reverse)
  f : H Fa = some (.lst (fs.map fun q => V.str (S q)))
  s : Stk K H0 H as l
  bw : H0 Wa = none
  bf : H0 Fa = none
  ne : Wa ≠ Fa
section
variable {K : PySem.W.Frag} {H0 H : Hp} {Wa Fa : Addr} {as : List Addr} {l : List (Nat × PyData)} {fs : List (List Nat)}
theorem WH.push (g : WH K H0 H Wa Fa as l fs) {p : Addr} {v : V} {k : Nat} {d : PyData} (hp : H p = none) (hd : Dp K H0 v d) (hs : smallD d = true) (hk : k = 0 → ∃ z, d = .str z) :
    WH K H0 (upd (upd H p (.tup [v, .int (k : Int)])) Wa (.lst ((as.map V.ref).reverse ++ [.ref p]))) Wa Fa (p :: as) ((k, d) :: l) fs := by
  have np : p ≠ Wa := (ne_of_none g.w hp).symm
  have nf : Fa ≠ p := ne_of_none g.f hp
  have t1 : Tx H (upd H p (.tup [v, .int (k : Int)])) := Tx.nw hp
  have t2 : Tx (upd H p (.tup [v, .int (k : Int)])) (upd (upd H p (.tup [v, .int (k : Int)])) Wa (.lst ((as.map V.ref).reverse ++ [.ref p]))) := Tx.up (by rw [upd_ne np.symm]; exact g.w) noTup_l
  refine ⟨Same.mut (Same.mut g.sm (Same.none g.sm hp)) g.bw, by rw [upd_same]; simp, by rw [upd_ne g.ne.symm, upd_ne nf]; exact g.f, .cons ⟨v, SqT.of (by rw [upd_ne np, upd_same]), hd, hs, hk⟩ (g.s.tx (t1.trans t2)), g.bw, g.bf, g.ne⟩
theorem WH.pop {a : Addr} {e : Nat × PyData} (g : WH K H0 H Wa Fa (a :: as) (e :: l) fs) : WH K H0 (upd H Wa (.lst (as.map V.ref).reverse)) Wa Fa as l fs := by
  have t : Tx H (upd H Wa (.lst (as.map V.ref).reverse)) := Tx.up g.w noTup_l
  have s : Stk K H0 H as l := by
    cases g.s with
    | cons _ h => exact h
  exact ⟨Same.mut g.sm g.bw, upd_same, by rw [upd_ne g.ne.symm]; exact g.f, s.tx t, g.bw, g.bf, g.ne⟩
theorem WH.put (g : WH K H0 H Wa Fa as l fs) (f : List Nat) : WH K H0 (upd H Fa (.lst ((fs.map fun q => V.str (S q)) ++ [.str (S f)]))) Wa Fa as l (fs ++ [f]) := by
  have t : Tx H (upd H Fa (.lst ((fs.map fun q => V.str (S q)) ++ [.str (S f)]))) := Tx.up g.f noTup_l
  exact ⟨Same.mut g.sm g.bf, by rw [upd_ne g.ne]; exact g.w, by rw [upd_same]; simp, g.s.tx t, g.bw, g.bf, g.ne⟩
theorem WH.same {H' : Hp} (g : WH K H0 H Wa Fa as l fs) (t : Same H H') : WH K H0 H' Wa Fa as l fs :=
  ⟨Same.trans g.sm t, t _ _ g.w, t _ _ g.f, g.s.tx (Tx.of t), g.bw, g.bf, g.ne⟩
end
end WW

set_option maxHeartbeats 4000000
namespace WW
open PySem PySem.Spec PyProof.Rows L2
local macro_rules | `(tactic| walk_at "x") => `(tactic| simp only [tSeq, tNext, tAsg, gName, tRet, tRetN, tIfS, tOp, tUn, rI, rI0, rU, tTest, tB, tAnd, tOr, tNot, tAndV, tOrV, tNotV, tIf, tCons, tNil, tTup, tLst, tCall, tCallS, tMeth, tMake, tFld, sFld, tBM, tBM0, tCB, tSl, tPart, tNoPart, tDrop, tPar, tPar3, tAug, ipI, gTup, gCons, gNil, gSub, rSetL, rAppend, rPop, rIxL, rIxS, rIxT, rEq, rNe, tChain, tNever, tThen, tVar, tC, L2.start, List.map_cons, List.map_nil, List.length_cons, List.length_nil, List.replicate_succ, List.replicate_zero, List.append_nil, List.nil_append, List.cons_append, Nat.reduceAdd, Nat.reduceSub, Nat.add_zero, Nat.zero_add, Nat.sub_zero, Nat.sub_self,
  List.getElem?_cons_zero, List.getElem?_cons_succ, Option.some.injEq, exists_eq_left', exists_eq_left, exists_eq', exists_eq, exists_and_left, List.set_cons_zero, List.set_cons_succ, V.int.injEq, V.bl.injEq, V.str.injEq, V.ref.injEq, V.ty.injEq, List.cons.injEq, and_true, true_and, and_assoc, if_true, if_false, Bool.false_eq_true, reduceCtorEq, false_and, and_false, exists_false, false_or, or_false, Bool.not_true, Bool.not_false, decide_eq_true_eq, ite_true, ite_false, WE, cxOf_K, cxOf_mg, rSlS, scal, wipe, mem_low, mem_dig, mem_brk, mem_brk4, sgn_inj, Bool.decide_eq_true])

def AnsT (K : PySem.W.Frag) (H : Hp) (Q : VK) (E : XK) : Option (List Nat) → Prop
  | some t => ∀ H', Same H H' → Q (.str (S t)) H'
  | none => ∀ H', Same H H' → tX (mal K) (Str.ofString "no data") H' E
def spWrite (K : PySem.W.Frag) : Sp := fun vs H Q E => ∃ x d, vs = [x] ∧ Dp K H x d ∧ smallD d = true ∧ szD d ≤ 1000000 ∧ (∀ t, wD 1 d = some t → t.length ≤ 16000000) ∧ AnsT K H Q E (wD 1 d)
def wInv (K : PySem.W.Frag) (H0 : Hp) (x : V) (d0 : PyData) (tot : Nat) (Wa Fa : Addr) (m : Nat) (σ : L2.St) (H : Hp) : Prop := ∃ as l fs y3 y4 y5, σ = [some x, some (.ref Wa), some (.ref Fa), y3, y4, y5] ∧ WH K H0 H Wa Fa as l fs ∧ m = meas l ∧ fs.length + m ≤ tot ∧ wD 1 d0 = (pend l).map fun t => fs.flatten ++ t
theorem tFor_same {J : It} {n : Nat} {G : Hp → Prop} {Y : Nat → Hp → V → Hp → Prop} {wi : TI} {g : TG} {tb : TS} {D : Ends} {σ : L2.St} {H : Hp} (wk : Walk J n G Y) (hwi : ∀ R : It → Hp → Prop, R J H → wi σ H R) (Pv : Nat → L2.St → Hp → Prop) (h0 : Pv 0 σ H)
    (hG : ∀ i σ H, i ≤ n → Pv i σ H → G H) (hs : ∀ i x σ H H', i < n → Pv i σ H → Y i H x H' → g x σ H' fun σ2 H2 => tb { D with nx := Pv (i + 1), ct := Pv (i + 1), bk := D.nx } σ2 H2) (hd : ∀ σ H, Pv n σ H → D.nx σ H) : tFor wi g tb D σ H :=
  hwi _ (for_it wk Pv h0 hG hs hd)
theorem short_P43 {i : Int} (h : shortI i = true) : i.natAbs < P43 := by
  simp only [shortI, Bool.and_eq_true, decide_eq_true_eq] at h
  have b := bigP_bits 125
  have e : 2 ^ (107 * 125 + 1) ≤ P43 := by decide +kernel
  omega
theorem wD_atom {k : Nat} {d : PyData} (h : isa d "tuple" = false ∨ ¬ k ≤ 1000) : wD k d = if wordD d || shortD d then some (strD d) else none := by
  cases d with
  | tuple ds =>
    rcases h with h | h
    · cases h
    · simp only [wD, if_neg h, wordD, shortD, Bool.or_self, Bool.false_eq_true, if_false]
  | _ => simp [wD, wordD, shortD, strD]
theorem atom_ok {K : PySem.W.Frag} {H0 H2 : Hp} {Wa Fa : Addr} {as : List Addr} {l : List (Nat × PyData)} {fs : List (List Nat)} {v : V} {d : PyData} {F Er : Hp → Prop} {W1 W2 : XK}
    (g : WH K H0 H2 Wa Fa as l fs) (hd : Dp K H0 v d) (hs : smallD d = true) (hl : fs.length < sizeLine) (hok : (wordD d || shortD d) = true → ∀ H', WH K H0 H' Wa Fa as l (fs ++ [strD d]) → F H') (hno : (wordD d || shortD d) = false → ∀ H', Same H0 H' → Er H') :
    spIsWord K [v] H2 (fun x_2 H1 => ∃ c, x_2 = V.bl c ∧ if c = true then (tyV K "list" (V.ref Fa) H1 ∧ rStr1 [v] H1 fun x_3 H1 => ∃ x_4, H1 Fa = some (HO.lst x_4) ∧ x_4.length < sizeLine ∧ F (upd H1 Fa (HO.lst (x_4 ++ [x_3])))) else
      spIsShort K [v] H1 (fun x_3 H1 => ∃ c, x_3 = V.bl c ∧ if c = true then (tyV K "list" (V.ref Fa) H1 ∧ rStr1 [v] H1 fun x_4 H1 => ∃ x_5, H1 Fa = some (HO.lst x_5) ∧ x_5.length < sizeLine ∧ F (upd H1 Fa (HO.lst (x_5 ++ [x_4])))) else Er H1) W2) W1 := by
  refine ⟨v, d, rfl, Dp.sm g.sm d v hd, ?_, fun H3 s3 => ⟨_, rfl, ?_⟩⟩
  · rintro z rfl
    cases hd
    simpa [smallD] using hs
  have g3 := g.same s3
  by_cases h1 : wordD d = true
  · rw [if_pos h1]
    refine ⟨tyLst g3.f, ?_⟩
    cases hd with
    | str z =>
      refine ⟨_, rfl, _, g3.f, by rw [List.length_map]; exact hl, hok (by rw [h1]; rfl) _ (g3.put (strD (.str z)))⟩
    | _ => cases h1
  · rw [if_neg h1]
    refine ⟨v, d, rfl, Dp.sm g3.sm d v hd, _, rfl, ?_⟩
    have h1' : wordD d = false := by cases q : wordD d <;> simp_all
    by_cases h2 : shortD d = true
    · rw [if_pos h2]
      refine ⟨tyLst g3.f, ?_⟩
      cases hd with
      | int i =>
        refine ⟨_, rfl, short_P43 h2, _, g3.f, by rw [List.length_map]; exact hl, hok (by rw [h2]; simp) _ (g3.put (strD (.int i)))⟩
      | _ => cases h2
    · rw [if_neg h2]
      exact hno (by rw [h1']; simpa using h2) H3 g3.sm
section
variable {P : Program} {w : World} {K : PySem.W.Frag} {mg : Str → Option Value} {base : Heap}
theorem o_write_data (W : Wd fa fn K mg) : OkF P w K mg base d_write_data 3 ["data"] (spWrite K) := by
  have o_is_word := (o_is_word (P := P) (w := w) (base := base) W).mono (show 1 ≤ 2 by decide)
  have o_is_short := (o_is_short (P := P) (w := w) (base := base) W).mono (show 2 ≤ 2 by decide)
  obtain ⟨fd_is_word, F_is_word, b_is_word, k_is_word⟩ := o_is_word.ex; obtain ⟨fd_is_short, F_is_short, b_is_short, k_is_short⟩ := o_is_short.ex
  refine okfN true W (d := d_write_data) 4 sc_write_data rfl rfl (fun _ _ _ _ _ _ us hl => match us, hl with | [_], _ => rfl) ?len (fun cdv A outer s H vs Q E hr nd hu tk bo h => ?body)
  case len =>
    rintro vs H Q E ⟨_, _, rfl, _⟩
    rfl
  case body =>
    have po := bo.po; refine ⟨_, (pss_cons (ps_par (i := 1) (j := 2) (by rfl) nd rfl rfl (by decide) rfl rfl (pa_cons (pe_lst (pa_cons (pe_tup (pa_cons (pv 0) (pa_cons pe_int pa_nil))) pa_nil)) (pa_cons (pe_lst pa_nil) pa_nil)) (by rfl))
    (pss_cons (ps_while po (pt_cmpR op_gt (pe_callB call_len (by rfl) (W.free 3) (by decide +kernel) (pa_cons (pv 1) pa_nil)) pe_int (nomark _))
      (pss_cons (ps_asg (pe_bm0 PySem.F.plainAttrs_list PySem.F.slot_list_pop PySem.F.type_list_pop mt_pop (pv 1)) (pg_tup rfl (pgs_cons (pg_name (i := 3) nd rfl (by first | exact Or.inl rfl | exact Or.inr rfl)) (pgs_cons (pg_name (i := 4) nd rfl (by first | exact Or.inl rfl | exact Or.inr rfl)) pgs_nil))))
    (pss_one (ps_if (pt_cmpR op_eq (pv 4) pe_int (nomark _)) (pss_one (ps_expr (pe_bm PySem.F.plainAttrs_list PySem.F.slot_list_append PySem.F.type_list_append mt_append (pv 2) (pa_cons (pv 3) pa_nil)))) (pss_one (ps_if (PW.pt (pw_and (pt_val (pe_callB call_isiV (by rfl) (W.free 0) (by decide +kernel) (pa_cons (pv 3) (pa_cons (pe_bltn (v := .ty "tuple") (u := .type "tuple") rfl (W.free 4) (by decide +kernel) rfl) pa_nil)))) (pw_and1 (pt_cmpR op_le (pv 4) (C8.pe_gc rfl (W.intV 15)) (nomark _))))) (pss_cons (ps_expr (pe_bm PySem.F.plainAttrs_list PySem.F.slot_list_append PySem.F.type_list_append mt_append (pv 2) (pa_cons pe_str pa_nil)))
    (pss_cons (ps_expr (pe_bm PySem.F.plainAttrs_list PySem.F.slot_list_append PySem.F.type_list_append mt_append (pv 1) (pa_cons (pe_tup (pa_cons pe_str (pa_cons pe_int pa_nil))) pa_nil)))
    (pss_one (ps_for po rfl (pi_range3 rfl (W.free 13) (pa_cons (pe_op op_sub (pe_callB call_len (by rfl) (W.free 3) (by decide +kernel) (pa_cons (pv 3) pa_nil)) pe_int) (pa_cons (pe_un un_neg pe_int) (pa_cons (pe_un un_neg pe_int) pa_nil)))) (pg_name (i := 5) nd rfl (by first | exact Or.inl rfl | exact Or.inr rfl))
      (pss_cons (ps_expr (pe_bm PySem.F.plainAttrs_list PySem.F.slot_list_append PySem.F.type_list_append mt_append (pv 1) (pa_cons (pe_tup (pa_cons (pe_ix ix_seq (pv 3) (pv 5) (fun _ _ => rfl)) (pa_cons (pe_op op_add (pv 4) pe_int) pa_nil))) pa_nil)))
    (pss_one (ps_if (pt_cmpR op_gt (pv 5) pe_int (nomark _)) (pss_one (ps_expr (pe_bm PySem.F.plainAttrs_list PySem.F.slot_list_append PySem.F.type_list_append mt_append (pv 1) (pa_cons (pe_tup (pa_cons pe_str (pa_cons pe_int pa_nil))) pa_nil)))) pss_nil))))))) (pss_one (ps_if (PW.pt (pw_or (pt_val (by exact (pe_callS F_is_word (hr.mono (by first | decide | omega)) rfl (W.glo 17) k_is_word b_is_word (fun σ => passAt tk σ) (by exact (pa_cons (pv 3) pa_nil))))) (pw_or1 (pt_val (by exact (pe_callS F_is_short (hr.mono (by first | decide | omega)) rfl (W.glo 16) k_is_short b_is_short (fun σ => passAt tk σ) (by exact (pa_cons (pv 3) pa_nil)))))))) (pss_one (ps_expr (pe_bm PySem.F.plainAttrs_list PySem.F.slot_list_append PySem.F.type_list_append mt_append (pv 2) (pa_cons (pe_callTy (call_str1 rfl W.dg) (by rfl) (W.free 11) (by decide +kernel) (pa_cons (pv 3) pa_nil)) pa_nil)))) (pss_one (ps_raise rfl tk (W.pmk 18 19 rfl pe_str)))))))))))
    (pss_one (ps_ret (pe_bm PySem.F.plainAttrs_str PySem.F.slot_str_join PySem.F.type_str_join mt_join pe_str (pa_cons (pv 2) pa_nil)))))), ?_⟩
    obtain ⟨x, d, rfl, hd, hsm, htot, hlen, ha⟩ := h
    clear tk po bo
    walk_at "x"
    refine ⟨by decide, fun p hp => ⟨by decide, fun Wa hWa => ⟨by decide, fun Fa hFa => ?_⟩⟩⟩
    have nWp : Wa ≠ p := fun e => by rw [e, upd_same] at hWa; cases hWa
    rw [upd_ne nWp] at hWa
    have nFW : Fa ≠ Wa := fun e => by rw [e, upd_same] at hFa; cases hFa
    rw [upd_ne nFW] at hFa
    have nFp : Fa ≠ p := fun e => by rw [e, upd_same] at hFa; cases hFa
    rw [upd_ne nFp] at hFa
    have g0 : WH K H (upd (upd (upd H p (HO.tup [x, V.int 1])) Wa (HO.lst [V.ref p])) Fa (HO.lst [])) Wa Fa [p] [(1, d)] [] := by
      refine ⟨Same.mut (Same.mut (Same.new hp) hWa) hFa, by rw [upd_ne nFW.symm, upd_same]; rfl, by rw [upd_same]; rfl, .cons ⟨x, SqT.of (by rw [upd_ne nFp.symm, upd_ne nWp.symm, upd_same]; rfl), hd, hsm, fun e => by cases e⟩ .nil, hWa, hFa, nFW.symm⟩
    unfold tWhile
    refine ⟨wInv K H x d 1000000 Wa Fa, ⟨_, [p], [(1, d)], [], none, none, none, rfl, g0, rfl, by simpa [meas] using htot, ?_⟩, ?_⟩
    · simp only [pend, one, List.flatten_nil, List.nil_append]
      cases wD 1 d <;> simp
    rintro m σ H1 ⟨as, l, fs, y3, y4, y5, rfl, g, rfl, hm, he⟩
    walk_at "x"
    refine ⟨as.length, .inl ⟨_, SqL.of g.w, by simp⟩, ?_⟩
    have hal := g.s.len
    cases l with
    | nil =>
      rw [if_neg (by rw [hal]; decide)]
      simp only [pend, Option.map_some, List.append_nil] at he
      rw [he] at ha
      have hln := hlen _ he
      have hl2 := lens_S fs
      refine ⟨rfl, fs.map S, .inl (SqL.of (by rw [List.map_map]; exact g.f)), by rw [hl2, show (Str.ofString "").length = 0 by decide +kernel]; omega, ?_⟩
      rw [join_S]
      exact ha _ g.sm
    | cons e l =>
      obtain ⟨a, as', rfl⟩ : ∃ a as', as = a :: as' := by
        cases as with
        | nil => simp at hal
        | cons a as' => exact ⟨a, as', rfl⟩
      rw [if_pos (by rw [List.length_cons]; omega)]
      obtain ⟨k, d1⟩ := e
      have hx : ((a :: as').map V.ref).reverse = (as'.map V.ref).reverse ++ [.ref a] := by simp
      have hw : H1 Wa = some (.lst ((as'.map V.ref).reverse ++ [.ref a])) := by rw [← hx]; exact g.w
      have ix : ((as'.map V.ref).reverse ++ [V.ref a])[((as'.map V.ref).reverse ++ [V.ref a]).length - 1]? = some (.ref a) := by simp
      have dl : ((as'.map V.ref).reverse ++ [V.ref a]).dropLast = (as'.map V.ref).reverse := List.dropLast_concat
      have g1 := g.pop
      obtain ⟨v, q1, q2, q3, q4⟩ : It1 K H H1 a (k, d1) := by
        cases g.s with
        | cons h _ => exact h
      simp only at q1 q2 q3 q4
      have t1 : Tx H1 (upd H1 Wa (.lst (as'.map V.ref).reverse)) := Tx.up g.w noTup_l
      refine ⟨fun σ' H' => ∃ m', m' < meas ((k, d1) :: l) ∧ wInv K H x d 1000000 Wa Fa m' σ' H', fun σ' H' h => h, tyLst g.w, _, hw, _, ix, a, rfl, _, by rw [dl]; exact t1.sqt q1, rfl, _, _, rfl, _, _, rfl, rfl, rfl, ?_⟩
      rw [dl]
      generalize hH2 : upd H1 Wa (.lst (as'.map V.ref).reverse) = H2 at g1 t1
      have mp := szD_pos d1
      have ml := meas_len l
      have hal' := g1.s.len
      simp only [meas] at hm
      have F0 : ∀ (f : List Nat) (y3 y4 y5 : Option V), one k d1 = some f → ∀ H', WH K H H' Wa Fa as' l (fs ++ [f]) → ∃ m', m' < meas ((k, d1) :: l) ∧ wInv K H x d 1000000 Wa Fa m' [some x, some (V.ref Wa), some (V.ref Fa), y3, y4, y5] H' := by
        intro f y3 y4 y5 hf H' g'
        refine ⟨meas l, by simp only [meas]; omega, as', l, fs ++ [f], y3, y4, y5, rfl, g', rfl, by rw [List.length_append, List.length_singleton]; omega, ?_⟩
        rw [he]
        simp only [pend, hf, Option.bind_some]
        cases pend l <;> simp
      have szl : sizeLine = 16777216 := sizeLine_eq
      cases k with
      | zero =>
        rw [if_pos (show V.int ((0 : Nat) : Int) = V.int 0 from rfl)]
        obtain ⟨z, rfl⟩ := q4 rfl
        cases q2
        exact ⟨tyLst g1.f, _, g1.f, by rw [List.length_map]; omega, F0 _ _ _ _ rfl _ (g1.put z.cps.toList)⟩
      | succ k =>
        rw [if_neg (by simp only [V.int.injEq]; omega)]
        have hno : (wordD d1 || shortD d1) = false → (isa d1 "tuple" = false ∨ ¬ (k + 1) ≤ 1000) → ∀ H', Same H H' → tX (mal K) (Str.ofString "no data") H' E := by
          intro h1 h2
          have e : wD 1 d = none := by
            rw [he]
            simp only [pend, one, wD_atom h2, h1, Bool.false_eq_true, if_false, Option.bind_none, Option.map_none]
          rw [e] at ha
          exact ha
        refine ⟨v, "tuple", rfl, by decide, _, IsaV.of (Dp.sm g1.sm d1 v q2), _, rfl, ?_⟩
        rcases Bool.eq_false_or_eq_true (isa d1 "tuple") with ht | ht
        · rw [if_pos ht]
          refine ⟨_, rfl, ?_⟩
          by_cases hk : k + 1 ≤ 1000
          · rw [if_pos (by omega)]
            cases q2 with
            | @tup a1 vs ds r1 r2 =>
              have g2 := g1.put [91]
              simp only [ob_lit, cb_lit, co_lit]
              refine ⟨tyLst g1.f, _, g1.f, by rw [List.length_map]; omega, tyLst g2.w, by decide, fun p2 hp2 => ?_⟩
              have np2 : Wa ≠ p2 := ne_of_none g2.w hp2
              rw [upd_ne np2]
              refine ⟨_, g2.w, by simp only [List.length_reverse, List.length_map]; omega, ?_⟩
              have g3 := g2.push (k := 0) (d := close) hp2 (.str _) rfl fun _ => ⟨_, rfl⟩
              have hvl := DpAll.length r2
              have szl2 : 2 * ds.length ≤ szD (.tuple ds) := by
                simp only [szD]
                have : ∀ es : List PyData, 2 * es.length ≤ szDs es := by
                  intro es
                  induction es with
                  | nil => simp
                  | cons c es ih => have := szD_pos c; simp only [szDs, List.length_cons]; omega
                have := this ds
                omega
              refine tFor_same (walk_rangeC (lo := (ds.length : Int) - 1) (c := -1) (n := ds.length)) ?_ (fun j σ H' => ∃ y, σ = [some x, some (V.ref Wa), some (V.ref Fa), some (.ref a1), some (V.int ((k + 1 : Nat) : Int)), y] ∧ ∃ as2, WH K H H' Wa Fa as2 ((cm (k + 1) (ds.drop (ds.length - j))).drop (if ds.length - j = 0 then 1 else 0) ++ (0, close) :: l) (fs ++ [[91]])) ?_ (fun _ _ _ _ _ => trivial) ?_ ?_
              · intro R hR
                simp only [iRng3]
                walk_at "x"
                refine ⟨ds.length, .inr ⟨vs, (Tx.of g3.sm).sqt r1, hvl.symm⟩, ds.length, ?_, hR⟩
                have := RgC.neg (i := (ds.length : Int) - 1) (j := -1) (by omega) (by omega) (by decide) (by decide)
                rw [show ((ds.length : Int) - 1 - -1).toNat = ds.length by omega] at this
                exact this
              · refine ⟨_, rfl, p2 :: as', ?_⟩
                rw [Nat.sub_zero, List.drop_length]
                simpa [cm] using g3
              · rintro j xx σ H3 H4 hj ⟨y, rfl, as2, g4⟩ ⟨rfl, rfl⟩
                obtain ⟨i, hi⟩ : ∃ i, ds.length - j = i + 1 := ⟨ds.length - j - 1, by omega⟩
                rw [hi, if_neg (by omega), List.drop_zero] at g4
                have hil : i < ds.length := by omega
                have ei : ds[i]? = some ds[i] := List.getElem?_eq_getElem hil
                have evi : vs[i]? = some (vs[i]'(by omega)) := List.getElem?_eq_getElem (by omega)
                obtain ⟨d', hd', hdp⟩ := DpAll.get r2 evi
                rw [ei] at hd'
                cases hd'
                have hsi := smallDs_get (by simpa only [smallD] using q3) ei
                have hal4 := g4.s.len
                have hml := meas_len ((cm (k + 1) (ds.drop (i + 1))) ++ (0, close) :: l)
                have hms : meas ((cm (k + 1) (ds.drop (i + 1))) ++ (0, close) :: l) ≤ meas (cm (k + 1) ds) + 1 + meas l := by
                  rw [meas_app]
                  have e := cm_app (k + 1) (ds.take (i + 1)) (ds.drop (i + 1))
                  rw [List.take_append_drop] at e
                  rw [e, meas_app]
                  simp only [meas, close, szD]
                  omega
                rw [meas_cm] at hms
                simp only [szD] at hm
                walk_at "x"
                simp only [rIx]
                refine ⟨tyLst g4.w, .inr (.inl ⟨a1, vs, _, vs[i]'(by omega), rfl, rfl, (Tx.of g4.sm).sqt r1, ?_, by decide, fun p5 hp5 => ?_⟩)⟩
                · rw [show (ds.length : Int) - 1 + ((j : Nat) : Int) * -1 = ((i : Nat) : Int) by omega]
                  exact atI_nat evi
                rw [upd_ne (ne_of_none g4.w hp5)]
                refine ⟨_, g4.w, by simp only [List.length_reverse, List.length_map]; omega, ?_⟩
                have g5 := g4.push (k := k + 1 + 1) (d := ds[i]) hp5 hdp hsi fun e => by cases e
                rw [show (((k + 1 : Nat) : Int) + 1) = ((k + 1 + 1 : Nat) : Int) from rfl]
                generalize hH5 : upd (upd H4 p5 (HO.tup [vs[i], V.int ((k + 1 + 1 : Nat) : Int)])) Wa (HO.lst ((as2.map V.ref).reverse ++ [V.ref p5])) = H5 at g5 ⊢
                have ed : cm (k + 1) (ds.drop i) = (0, comma) :: (k + 1 + 1, ds[i]) :: cm (k + 1) (ds.drop (i + 1)) := by
                  rw [drop_at ei]
                  rfl
                have hn : ds.length - (j + 1) = i := by omega
                by_cases h0 : i = 0
                · rw [if_neg (by omega)]
                  refine ⟨p5 :: as2, ?_⟩
                  rw [hn, if_pos h0, ed]
                  exact g5
                · rw [if_pos (by omega)]
                  refine ⟨tyLst g5.w, by decide, fun p6 hp6 => ?_⟩
                  rw [upd_ne (ne_of_none g5.w hp6)]
                  have hal5 := g5.s.len
                  refine ⟨_, g5.w, by simp only [List.length_reverse, List.length_map, List.length_cons]; omega, ?_⟩
                  have g6 := g5.push (k := 0) (d := comma) hp6 (.str _) rfl fun _ => ⟨_, rfl⟩
                  refine ⟨p6 :: p5 :: as2, ?_⟩
                  rw [hn, if_neg h0, ed]
                  exact g6
              · rintro σ H3 ⟨y, rfl, as2, g4⟩
                rw [Nat.sub_self, if_pos rfl, List.drop_zero] at g4
                have mt := meas_tup (k + 1) ds l
                refine ⟨_, Nat.lt_of_lt_of_le (Nat.lt_succ_self _) mt, as2, _, _, _, _, _, rfl, g4, rfl, ?_, ?_⟩
                · rw [List.length_append, List.length_singleton]
                  simp only [meas] at mt
                  omega
                · rw [he, pend_tup hk]
                  cases pend ((cm (k + 1) ds).drop 1 ++ (0, close) :: l) <;> simp
            | _ => cases ht
          · rw [if_neg (by omega)]
            exact atom_ok (F := fun H' => ∃ m', m' < meas ((k + 1, d1) :: l) ∧ wInv K H x d 1000000 Wa Fa m' _ H') (Er := fun H' => tX (mal K) (Str.ofString "no data") H' E) g1 q2 q3 (by omega) (fun h H' g' => F0 _ _ _ _ (by simp only [one, wD_atom (.inr hk), h, if_true]) H' g') fun h H' s' => hno h (.inr hk) H' s'
        · rw [if_neg (by rw [ht]; decide)]
          exact atom_ok (F := fun H' => ∃ m', m' < meas ((k + 1, d1) :: l) ∧ wInv K H x d 1000000 Wa Fa m' _ H') (Er := fun H' => tX (mal K) (Str.ofString "no data") H' E) g1 q2 q3 (by omega) (fun h H' g' => F0 _ _ _ _ (by simp only [one, wD_atom (.inl ht), h, if_true]) H' g') fun h H' s' => hno h (.inl ht) H' s'
end
end WW

set_option maxHeartbeats 4000000
/-! ### list(zip(t, u)), t and u tuples of one length -/
namespace WW
open PySem PySem.Spec PyProof.Rows L2
section
variable {prog : Program} {w : World} {A : Around} {E : Value → Shared → Prop} {s : Shared} {z TI TO T i1 i2 l1 l2 : Addr} {f : Bool} {oT : Obj} {k1 k2 : Nat} {xs ys : Array Value}
/-- the next pair, an earlier one being held -/
theorem zlNext {x y : Value} {Q : Option Value → Shared → Prop} (D : ZipApart z TI TO i1 i2 l1 l2) (hz : IsZipHeld s.heap z TI TO T f) (hT : s.heap.get? T = some oT) (hTI : IsPair s.heap TI (.ref i1) (.ref i2))
    (h1 : s.heap.IsTupleIter i1 l1 k1) (h2 : s.heap.IsTupleIter i2 l2 k2) (hl1 : s.heap.IsTuple l1 xs) (hl2 : s.heap.IsTuple l2 ys) (hx : xs[k1]? = some x) (hy : ys[k2]? = some y)
    (hQ : ∀ h', IsZipHeld h' z TI TO T true → h'.IsTupleIter i1 l1 (k1 + 1) → h'.IsTupleIter i2 l2 (k2 + 1) → IsPair h' s.heap.objs.size x y → (∀ c o, c ≠ z → c ≠ i1 → c ≠ i2 → s.heap.get? c = some o → h'.get? c = some o) →
      Q (some (.ref s.heap.objs.size)) { s with heap := h' }) : wpAny (model prog w) A (pyNext (.ref z)) Q E s := by
  have ty : s.TypeIs (.ref z) "zip" := ⟨_, hz, rfl⟩
  unfold pyNext
  refine wpAny_bind (wpAny_attempt (wpAny_callSpecial?_slot (name := Str.ofString "__next__") ty F.slot_zip_next (wpAny_call_entry F.slot_zip_next ty F.entry_zip_next ?_ (F.args_zip_next_1 _))))
  show wpAny _ _ (field (.ref z) 2 >>= _) _ _ _
  refine wpAny_bind (wpAny_field hz rfl (x := .bool false) rfl ?_)
  show wpAny _ _ (field (.ref z) 3 >>= _) _ _ _
  refine wpAny_bind (wpAny_field hz rfl (x := .ref TI) rfl (wpAny_bind (wpAny_seqItems hTI rfl ?_)))
  show wpAny _ _ (Builtin.SmallTypes.ownedTupleIsFree (.ref z) >>= _) _ _ _
  refine wpAny_bind (wpAny_tupleHeld_zip hz hT fun g1 a1 b1 => ?_)
  simp only [Bool.false_eq_true, if_false]
  refine wpAny_bind ?_
  rw [← Array.forIn_toList]
  simp only [List.forIn_cons, List.forIn_nil]
  refine wpAny_bind (wpAny_bind (wpAny_holding ?_))
  show wpAny _ _ (Builtin.SmallTypes.nextOf (.ref i1) >>= _) _ _ _
  refine wpAny_bind (RZ.nextOf_tuple_item (s := { s with heap := g1 }) (h1.extBut b1.extBut D.i1z) (hl1.extBut b1.extBut D.l1z) hx fun g2 a2 b2 => wpAny_pure (wpAny_pure ?_))
  refine wpAny_bind (wpAny_bind (wpAny_holding ?_))
  show wpAny _ _ (Builtin.SmallTypes.nextOf (.ref i2) >>= _) _ _ _
  refine wpAny_bind (RZ.nextOf_tuple_item (s := { s with heap := g2 }) ((h2.extBut b1.extBut D.i2z).extBut b2.extBut D.i12.symm) ((hl2.extBut b1.extBut D.l2z).extBut b2.extBut D.l2i1) hy fun g3 a3 b3 => wpAny_pure (wpAny_pure (wpAny_pure ?_)))
  show wpAny _ _ (newTuple [x, y] >>= _) _ _ _
  refine wpAny_bind (wpAny_newTuple (wpAny_pure ⟨_, rfl, ?_⟩))
  have all : ∀ c o, c ≠ z → c ≠ i1 → c ≠ i2 → s.heap.get? c = some o → g3.get? c = some o := fun c o n1 n2 n3 e => b3.extBut _ _ n3 (b2.extBut _ _ n2 (b1.extBut _ _ n1 e))
  have size : g3.objs.size = s.heap.objs.size := by rw [b3.1, b2.1, b1.1]
  have zip3 : IsZipHeld g3 z TI TO T true := b3.extBut _ _ D.i2z.symm (b2.extBut _ _ D.i1z.symm a1)
  have it1 : g3.IsTupleIter i1 l1 (k1 + 1) := a2.extBut b3.extBut D.i12
  have pair : IsPair (g3.push { cls := .type "tuple", data := .seq #[x, y] }) s.heap.objs.size x y := by
    rw [← size]
    exact Heap.get?_push_size _ rfl
  refine wpAny_pure ?_
  show Q (some (.ref g3.objs.size)) _
  rw [size]
  refine hQ _ (Heap.get?_push_of_some _ zip3) (it1.at fun o e => Heap.get?_push_of_some _ e) (a3.at fun o e => Heap.get?_push_of_some _ e) pair fun c o n1 n2 n3 e => Heap.get?_push_of_some _ (all c o n1 n2 n3 e)
/-- the end, an earlier one being held -/
theorem zlEnd {Q : Option Value → Shared → Prop} (hh : A.handled = none) (D : ZipApart z TI TO i1 i2 l1 l2) (hz : IsZipHeld s.heap z TI TO T f) (hT : s.heap.get? T = some oT) (hTI : IsPair s.heap TI (.ref i1) (.ref i2))
    (h1 : s.heap.IsTupleIter i1 l1 k1) (hl1 : s.heap.IsTuple l1 xs) (hx : xs[k1]? = none) (hQ : ∀ h', (∀ c o, c ∉ [z, TI, TO, i1, i2] → s.heap.get? c = some o → h'.get? c = some o) → Q none { s with heap := h' }) :
    wpAny (model prog w) A (pyNext (.ref z)) Q E s := by
  have ty : s.TypeIs (.ref z) "zip" := ⟨_, hz, rfl⟩
  have stop : ∀ h' e, (∀ c o, c ∉ [z, TI, TO, i1, i2] → s.heap.get? c = some o → h'.get? c = some o) → (∃ o, h'.get? e = some o ∧ o.cls = .type "StopIteration") →
      wpAny (model prog w) A (do if ← isInstance (.ref e) (.type "StopIteration") then pure none else throw (.ref e) : Sem (Option Value)) Q E { s with heap := h' } := by
    intro h' e k he
    obtain ⟨o, e1, e2⟩ := he
    exact wpAny_bind (wpAny_isInstance (T := "StopIteration") (b := true) ⟨o, e1, e2⟩ isSubtype_stop (wpAny_pure (hQ _ k)))
  unfold pyNext
  refine wpAny_bind (wpAny_attempt (wpAny_callSpecial?_slot (name := Str.ofString "__next__") ty F.slot_zip_next (wpAny_call_entry F.slot_zip_next ty F.entry_zip_next ?_ (F.args_zip_next_1 _))))
  show wpAny _ _ (field (.ref z) 2 >>= _) _ _ _
  refine wpAny_bind (wpAny_field hz rfl (x := .bool false) rfl ?_)
  show wpAny _ _ (field (.ref z) 3 >>= _) _ _ _
  refine wpAny_bind (wpAny_field hz rfl (x := .ref TI) rfl (wpAny_bind (wpAny_seqItems hTI rfl ?_)))
  show wpAny _ _ (Builtin.SmallTypes.ownedTupleIsFree (.ref z) >>= _) _ _ _
  refine wpAny_bind (wpAny_tupleHeld_zip hz hT fun g1 a1 b1 => ?_)
  simp only [Bool.false_eq_true, if_false]
  refine wpAny_bind ?_
  rw [← Array.forIn_toList]
  simp only [List.forIn_cons, List.forIn_nil]
  refine wpAny_bind (wpAny_bind (wpAny_holding ?_))
  show wpAny _ _ (Builtin.SmallTypes.nextOf (.ref i1) >>= _) _ _ _
  refine wpAny_bind (RZ.nextOf_tuple_end (s := { s with heap := g1 }) hh (h1.extBut b1.extBut D.i1z) (hl1.extBut b1.extBut D.l1z) hx fun g2 e b2 he => stop g2 e (fun c o n y => ?_) he)
  simp only [List.mem_cons, List.not_mem_nil, or_false, not_or] at n
  exact b2 _ _ n.2.2.2.1 (b1.extBut _ _ n.1 y)
end
/-- the pairs of two lists -/
def Pairs (H : Hp) (xs ys : List V) (ts : List Addr) : Prop := ∀ (j : Nat) (t : Addr), ts[j]? = some t → ∃ x y, xs[j]? = some x ∧ ys[j]? = some y ∧ H t = some (.tup [x, y])
section
variable {X : Cx} {pins : List (Addr × Obj)} {σ : L2.St} {H0 H : Hp} {s : Shared} {z TI TO i1 i2 a b S : Addr} {xs ys : List V} {res : Value} {R : Result → Shared → Prop} {A : Around}
/-- what stands at the i-th turn -/
structure ZL (X : Cx) (pins : List (Addr × Obj)) (σ : L2.St) (H0 : Hp) (z TI TO i1 i2 a b S : Addr) (xs ys : List V) (i : Nat) (H : Hp) (s : Shared) (ts : List Addr) : Prop where
  inv : Inv X pins σ H s
  sm : Same H0 H
  ls : H S = some (.lst (ts.map V.ref))
  len : ts.length = i
  prs : Pairs H xs ys ts
  new : ∀ t ∈ ts, H0 t = none ∧ t ≠ S
  fp : ∀ c ∈ [z, TI, TO, i1, i2], FpOk X pins H c
  zip : (i = 0 ∧ IsZip s.heap z TI TO .none) ∨ ∃ T f, IsZipHeld s.heap z TI TO T f ∧ T ∈ ts
  ti : IsPair s.heap TI (.ref i1) (.ref i2)
  to : ∃ x y, IsPair s.heap TO x y
  it1 : s.heap.IsTupleIter i1 a i
  it2 : s.heap.IsTupleIter i2 b i
theorem ZL.step (g : ZL X pins σ H0 z TI TO i1 i2 a b S xs ys i H s ts) (ha : SqT X.K H0 a xs) (hb : SqT X.K H0 b ys) (D : ZipApart z TI TO i1 i2 a b) (hS0 : H0 S = none) {x y : V} (hx : xs[i]? = some x) (hy : ys[i]? = some y) {E : Value → Shared → Prop} {A : Around}
    {Q : Option Value → Shared → Prop} (hQ : ∀ s' T, Inv X pins σ (upd H T (.tup [x, y])) s' → H T = none → (∀ c ∈ [z, TI, TO, i1, i2], FpOk X pins (upd H T (.tup [x, y])) c) → (∃ T' f, IsZipHeld s'.heap z TI TO T' f ∧ T' ∈ ts ++ [T]) → IsPair s'.heap TI (.ref i1) (.ref i2) → (∃ x y, IsPair s'.heap TO x y) →
      s'.heap.IsTupleIter i1 a (i + 1) → s'.heap.IsTupleIter i2 b (i + 1) → Q (some (.ref T)) s') : wpAny (model X.prog X.w) A (pyNext (.ref z)) Q E s := by
  have I := g.inv
  obtain ⟨its, rv, p1, _⟩ := I.tuple (ha.imp (fun h => h.imp (g.sm _ _) fun ⟨o, h⟩ => ⟨o, g.sm _ _ h⟩) id)
  obtain ⟨its2, rv2, p2, _⟩ := I.tuple (hb.imp (fun h => h.imp (g.sm _ _) fun ⟨o, h⟩ => ⟨o, g.sm _ _ h⟩) id)
  obtain ⟨u, hu, ru⟩ := rv.get hx
  obtain ⟨u2, hu2, ru2⟩ := rv2.get hy
  have zlt : ∀ c ∈ [z, TI, TO, i1, i2], H c = none := fun c hc => (g.fp c hc).1
  have sz : H s.heap.objs.size = none := I.hok.fresh (Nat.le_refl _)
  have fp' : ∀ c ∈ [z, TI, TO, i1, i2], c < s.heap.objs.size → FpOk X pins (upd H s.heap.objs.size (.tup [x, y])) c := by
    intro c hc hl
    obtain ⟨q1, q2⟩ := g.fp c hc
    exact ⟨by rw [upd_ne (Nat.ne_of_lt hl)]; exact q1, q2⟩
  have new : ∀ {h' : Heap}, IsPair h' s.heap.objs.size u u2 → ObjOk X.prog X.w (upd H s.heap.objs.size (.tup [x, y])) h' s.heap.objs.size (.tup [x, y]) := fun hp => ⟨by show 2 ≤ sizeLine; decide, [u, u2], .cons ru (.cons ru2 .nil), ⟨_, hp, rfl, _, rfl⟩⟩
  have i1lt : i1 < s.heap.objs.size := by obtain ⟨_, e, _⟩ := g.it1; exact Heap.lt_size e
  have i2lt : i2 < s.heap.objs.size := by obtain ⟨_, e, _⟩ := g.it2; exact Heap.lt_size e
  obtain ⟨x0, y0, hTO⟩ := g.to
  rcases g.zip with ⟨e0, hz⟩ | ⟨T, f, hz, hT⟩
  · refine RZ.pyNext_zipT_item D hz g.ti hTO g.it1 g.it2 p1 p2 (x := u) (y := u2) (by simpa using hu) (by simpa using hu2) fun h' z' TO' q1 q2 hp _ hk => ?_
    have keep : ∀ c o, c ∉ [z, TI, TO, i1, i2] → s.heap.get? c = some o → h'.get? c = some o := by
      intro c o n e
      simp only [List.mem_cons, List.not_mem_nil, or_false, not_or] at n
      exact hk c o n.1 n.2.2.1 n.2.2.2.1 n.2.2.2.2 e
    refine hQ _ _ (I.turnedNew (t' := s.toks) keep g.fp (Nat.le_refl _) (new hp)) sz (fun c hc => fp' c hc ?_) ⟨_, false, z', by simp⟩ (hk _ _ D.TIz D.TITO D.TIi1 D.TIi2 g.ti) ⟨_, _, TO'⟩ q1 q2
    simp only [List.mem_cons, List.not_mem_nil, or_false] at hc
    rcases hc with q | q | q | q | q
    · rw [q]; exact Heap.lt_size hz
    · rw [q]; exact Heap.lt_size g.ti
    · rw [q]; exact Heap.lt_size hTO
    · rw [q]; exact i1lt
    · rw [q]; exact i2lt
  · obtain ⟨j, hj⟩ := List.mem_iff_getElem?.mp hT
    obtain ⟨_, _, _, _, hTt⟩ := g.prs j T hj
    obtain ⟨oT, hoT⟩ := objOk_get (I.hok T _ hTt)
    refine zlNext D hz hoT g.ti g.it1 g.it2 p1 p2 (x := u) (y := u2) (by simpa using hu) (by simpa using hu2) fun h' z' q1 q2 hp hk => ?_
    have keep : ∀ c o, c ∉ [z, TI, TO, i1, i2] → s.heap.get? c = some o → h'.get? c = some o := by
      intro c o n e
      simp only [List.mem_cons, List.not_mem_nil, or_false, not_or] at n
      exact hk c o n.1 n.2.2.2.1 n.2.2.2.2 e
    refine hQ _ _ (I.turnedNew (t' := s.toks) keep g.fp (Nat.le_refl _) (new hp)) sz (fun c hc => fp' c hc ?_) ⟨T, true, z', List.mem_append_left _ hT⟩ (hk _ _ D.TIz D.TIi1 D.TIi2 g.ti) ⟨_, _, hk _ _ D.TOz D.TOi1 D.TOi2 hTO⟩ q1 q2
    simp only [List.mem_cons, List.not_mem_nil, or_false] at hc
    rcases hc with q | q | q | q | q
    · rw [q]; exact Heap.lt_size hz
    · rw [q]; exact Heap.lt_size g.ti
    · rw [q]; exact Heap.lt_size hTO
    · rw [q]; exact i1lt
    · rw [q]; exact i2lt
theorem ZL.stop (g : ZL X pins σ H0 z TI TO i1 i2 a b S xs ys i H s ts) (ha : SqT X.K H0 a xs) (hb : SqT X.K H0 b ys) (D : ZipApart z TI TO i1 i2 a b) {A : Around} (hh : A.handled = none) (hi : i = xs.length) {E : Value → Shared → Prop}
    {Q : Option Value → Shared → Prop} (hQ : ∀ s', Inv X pins σ H s' → Q none s') : wpAny (model X.prog X.w) A (pyNext (.ref z)) Q E s := by
  have I := g.inv
  obtain ⟨its, rv, p1, _⟩ := I.tuple (ha.imp (fun h => h.imp (g.sm _ _) fun ⟨o, h⟩ => ⟨o, g.sm _ _ h⟩) id)
  obtain ⟨its2, rv2, p2, _⟩ := I.tuple (hb.imp (fun h => h.imp (g.sm _ _) fun ⟨o, h⟩ => ⟨o, g.sm _ _ h⟩) id)
  have e1 : its.toArray[i]? = none := by
    have := rv.length
    simp
    omega
  obtain ⟨x0, y0, hTO⟩ := g.to
  rcases g.zip with ⟨e0, hz⟩ | ⟨T, f, hz, hT⟩
  · refine RZ.pyNext_zipT_end hh D hz g.ti hTO g.it1 g.it2 p1 p2 (.inl e1) fun h' hk => hQ _ (I.turnedL (t' := s.toks) (ch := [z, TI, TO, i1, i2]) (fun c o n e => ?_) g.fp)
    simp only [List.mem_cons, List.not_mem_nil, or_false, not_or] at n
    exact hk c o n.1 n.2.2.1 n.2.2.2.1 n.2.2.2.2 e
  · obtain ⟨j, hj⟩ := List.mem_iff_getElem?.mp hT
    obtain ⟨_, _, _, _, hTt⟩ := g.prs j T hj
    obtain ⟨oT, hoT⟩ := objOk_get (I.hok T _ hTt)
    exact zlEnd hh D hz hoT g.ti g.it1 p1 e1 fun h' hk => hQ _ (I.turnedL (t' := s.toks) (ch := [z, TI, TO, i1, i2]) hk g.fp)
/-- the loop of list.extend -/
theorem zl_loop (ha : SqT X.K H0 a xs) (hb : SqT X.K H0 b ys) (hl : xs.length = ys.length) (D : ZipApart z TI TO i1 i2 a b) (hS0 : H0 S = none) {A : Around} (hh : A.handled = none)
    (hR : ∀ H' s' ts, Inv X pins σ H' s' → Same H0 H' → H' S = some (.lst (ts.map V.ref)) → ts.length = xs.length → Pairs H' xs ys ts → (∀ t ∈ ts, H0 t = none ∧ t ≠ S) → R (.ok (.ret res)) s') :
    ∀ (k i : Nat) (H : Hp) (s : Shared) (ts : List Addr), xs.length - i = k → i ≤ xs.length → ZL X pins σ H0 z TI TO i1 i2 a b S xs ys i H s ts → codeAny (model X.prog X.w) A (.builtin "list.extend.loop" ⟨[.ref S, .ref z, res], []⟩) R s := by
  intro k
  induction k with
  | zero =>
    intro i H s ts hk hi g
    refine codeAny_builtin PySem.F.entry_extend_loop ?_
    rw [Around.under_plainId PySem.F.plain_extend_loop _]
    show wpAny _ A.in1 (pyNext (.ref z) >>= _) _ _ _
    refine wpAny_bind (g.stop ha hb D (A := A.in1) hh (by omega) fun s' I' => wpAny_pure ?_)
    exact hR H s' ts I' g.sm g.ls (by rw [g.len]; omega) g.prs g.new
  | succ k ih =>
    intro i H s ts hk hi g
    have hlt : i < xs.length := by omega
    refine codeAny_builtin PySem.F.entry_extend_loop ?_
    rw [Around.under_plainId PySem.F.plain_extend_loop _]
    show wpAny _ A.in1 (pyNext (.ref z) >>= _) _ _ _
    refine wpAny_bind (g.step ha hb D hS0 (List.getElem?_eq_getElem hlt) (List.getElem?_eq_getElem (by omega)) fun s' T I' hT fp' zip' ti' to' it1' it2' => ?_)
    have nST : S ≠ T := ne_of_none g.ls hT
    have ls' : upd H T (.tup [xs[i], ys[i]'(by omega)]) S = some (.lst (ts.map V.ref)) := by rw [upd_ne nST]; exact g.ls
    obtain ⟨zs, its, n, rv, hln, eS⟩ := I'.lstM ls'
    have sl : ts.length + 1 ≤ sizeLine := by
      obtain ⟨its0, _, _, q⟩ := g.inv.tuple (ha.imp (fun h => h.imp (g.sm _ _) fun ⟨o, h⟩ => ⟨o, g.sm _ _ h⟩) id)
      have := g.len
      omega
    rw [List.length_map] at hln zs
    show wpAny _ A.in1 (updateSeq S (·.push (Value.ref T)) >>= _) _ _ _
    have I2 := I'.lset (f := (·.push (Value.ref T))) (its' := its ++ [Value.ref T]) (ys := (ts ++ [T]).map V.ref) (t' := s'.toks) ls' eS (by simp) (by rw [List.map_append]; exact rv.append (.cons rfl .nil)) (by rw [List.length_map, List.length_append]; exact sl)
    have zlt : ∀ c ∈ [z, TI, TO, i1, i2], S ≠ c := fun c hc e => by
      have := (g.fp c hc).1
      rw [← e, g.ls] at this
      cases this
    have up : ∀ c o, c ∈ [z, TI, TO, i1, i2] → s'.heap.get? c = some o → (s'.heap.update S (Obj.mapSeq (·.push (Value.ref T)))).get? c = some o := fun c o hc e => (Heap.get?_update_other _ _ (zlt c hc)).trans e
    refine wpAny_bind (wpAny_updateSeq eS rfl (wpAny_pure ⟨plainId_quiet PySem.F.plain_extend_loop _, ih (i + 1) _ _ (ts ++ [T]) (by omega) hlt
      { inv := I2, sm := ?_, ls := upd_same, len := by rw [List.length_append, g.len]; rfl, prs := ?_, new := ?_, fp := ?_, zip := .inr ?_, ti := up TI _ (by simp) ti', to := ?_, it1 := it1'.at fun o e => up i1 o (by simp) e, it2 := it2'.at fun o e => up i2 o (by simp) e }⟩) ?_ ?_)
    · exact fun p u e => by
        rw [upd_ne (ne_of_none e hS0), upd_ne (ne_of_none (g.sm _ _ e) hT)]
        exact g.sm _ _ e
    · intro j t hj
      rcases Nat.lt_trichotomy j ts.length with h1 | h1 | h1
      · rw [List.getElem?_append_left h1] at hj
        obtain ⟨x, y, e1, e2, e3⟩ := g.prs j t hj
        refine ⟨x, y, e1, e2, ?_⟩
        rw [upd_ne (g.new t (List.mem_of_getElem? hj)).2, upd_ne (ne_of_none e3 hT)]
        exact e3
      · subst h1
        have et : T = t := by simpa using hj
        subst et
        have := g.len
        refine ⟨xs[i], ys[i]'(by omega), ?_, ?_, ?_⟩
        · rw [this]; exact List.getElem?_eq_getElem hlt
        · rw [this]; exact List.getElem?_eq_getElem (by omega)
        · rw [upd_ne nST.symm, upd_same]
      · rw [List.getElem?_eq_none (by rw [List.length_append, List.length_singleton]; omega)] at hj
        cases hj
    · intro t ht
      rcases List.mem_append.mp ht with ht | ht
      · exact g.new t ht
      · rw [List.mem_singleton.mp ht]
        exact ⟨g.sm.free hT, nST.symm⟩
    · intro c hc
      obtain ⟨q1, q2⟩ := fp' c hc
      exact ⟨by rw [upd_ne (zlt c hc).symm]; exact q1, q2⟩
    · obtain ⟨T', f, e, m⟩ := zip'
      exact ⟨T', f, up z _ (by simp) e, m⟩
    · obtain ⟨x, y, e⟩ := to'
      exact ⟨x, y, up TO _ (by simp) e⟩
    · rw [List.size_toArray, ← hln]; omega
    · show (its.toArray.push (Value.ref T)).size ≤ sizeLine + 1
      rw [Array.size_push, List.size_toArray, ← hln]; omega
end
theorem zip_len0 : typeLookup (.type "zip") "__len__" = pure none := by rw [typeLookup_type, builtinLookup_eq_fast]; kernel_rfl
theorem zip_hint0 : typeLookup (.type "zip") "__length_hint__" = pure none := by rw [typeLookup_type, builtinLookup_eq_fast]; kernel_rfl
/-- what list(zip(x, y)) asks -/
def rZL (K : PySem.W.Frag) (x y : V) (H : Hp) (Q : VK) : Prop := ∃ a b xs ys, x = .ref a ∧ y = .ref b ∧ SqT K H a xs ∧ SqT K H b ys ∧ xs.length = ys.length ∧
  ∀ S ts H', Same H H' → H S = none → H' S = some (.lst (ts.map V.ref)) → ts.length = xs.length → Pairs H' xs ys ts → (∀ t ∈ ts, H t = none ∧ t ≠ S) → Q (.ref S) H'
def tListZip (K : PySem.W.Frag) (ta tb : TE) : TE := fun σ H Q => tCons ta (tCons tb tNil) σ H fun vs H1 => ∃ x y, vs = [x, y] ∧ rZL K x y H1 Q
section
variable {X : Cx} {e e2 : Expr} {ta tb : TE} {p p2 zpos pos : Pos}
theorem list_of_zip {pins : List (Addr × Obj)} {σ : L2.St} {H : Hp} {s : Shared} {z TI TO i1 i2 a b : Addr} {xs ys : List V} {Q : VK} (hc : X.calm = true) (I : Inv X pins σ H s) (ha : SqT X.K H a xs) (hb : SqT X.K H b ys) (hl : xs.length = ys.length) (D : ZipApart z TI TO i1 i2 a b)
    (fp : ∀ c ∈ [z, TI, TO, i1, i2], FpOk X pins H c) (hz : IsZip s.heap z TI TO .none) (ti : IsPair s.heap TI (.ref i1) (.ref i2)) (to : ∃ x y, IsPair s.heap TO x y) (it1 : s.heap.IsTupleIter i1 a 0) (it2 : s.heap.IsTupleIter i2 b 0)
    (hq : ∀ S ts H', Same H H' → H S = none → H' S = some (.lst (ts.map V.ref)) → ts.length = xs.length → Pairs H' xs ys ts → (∀ t ∈ ts, H t = none ∧ t ≠ S) → Q (.ref S) H') :
    wpAny (model X.prog X.w) X.A (call (.type "list") [.ref z]) (EP X pins σ Q) X.xe s := by
  refine callType_codes (Q₁ := fun obj s₁ => obj = .ref s.heap.objs.size ∧ s₁ = { s with heap := s.heap.push { cls := .type "list", data := .seq #[] } }) PySem.F.called_list (PySem.F.typeCall_list_1 _) PySem.F.entry_list_init (code_list_new _ ⟨rfl, rfl⟩) fun obj s₁ h₁ => ?_
  obtain ⟨rfl, rfl⟩ := h₁
  generalize hS : s.heap.objs.size = S
  have hS0 : H S = none := by rw [← hS]; exact I.hok.fresh (Nat.le_refl _)
  have lt : ∀ c ∈ [z, TI, TO, i1, i2], c < S := by
    intro c hc
    rw [← hS]
    obtain ⟨x0, y0, hTO⟩ := to
    simp only [List.mem_cons, List.not_mem_nil, or_false] at hc
    rcases hc with q | q | q | q | q
    · rw [q]; exact Heap.lt_size hz
    · rw [q]; exact Heap.lt_size ti
    · rw [q]; exact Heap.lt_size hTO
    · rw [q]; obtain ⟨_, e, _⟩ := it1; exact Heap.lt_size e
    · rw [q]; obtain ⟨_, e, _⟩ := it2; exact Heap.lt_size e
  have I1 := I.lnew (its := []) (ys := []) (t' := s.toks) .nil (Nat.zero_le _)
  rw [hS] at I1
  have e1 : (s.heap.push { cls := .type "list", data := .seq #[] }).get? S = some { cls := .type "list", data := .seq ([] : List Value).toArray } := by rw [← hS]; exact Heap.get?_push_size _ rfl
  refine ⟨⟨_, e1, rfl⟩, PySem.F.args_list_init_2 _ _, ?_⟩
  have ndl : S ≠ z := Nat.ne_of_gt (lt z (by simp))
  -- the three writes ahead of the loop
  have W1 := I1.lset (f := fun _ => #[]) (its := []) (its' := []) (ys := []) (t' := s.toks) upd_same e1 rfl .nil (Nat.zero_le _)
  have e2 := Heap.get?_update_self (Obj.mapSeq (fun _ => (#[] : Array Value))) e1 rfl
  have W2 := W1.lset (f := (·.push Value.none)) (its := []) (its' := [Value.none]) (ys := [.non]) (t' := s.toks) upd_same e2 rfl (.cons rfl .nil) (by show 1 ≤ sizeLine; decide)
  have e3 := Heap.get?_update_self (Obj.mapSeq (·.push Value.none)) e2 rfl
  have W3 := W2.lset (f := (·.pop)) (its := [Value.none]) (its' := []) (ys := []) (t' := s.toks) upd_same e3 (by rfl) .nil (Nat.zero_le _)
  rw [upd_upd, upd_upd, upd_upd] at W3
  have keep : ∀ c o, c ∈ [z, TI, TO, i1, i2] → s.heap.get? c = some o → ((((s.heap.push { cls := .type "list", data := .seq #[] }).update S (Obj.mapSeq (fun _ => (#[] : Array Value)))).update S (Obj.mapSeq (·.push Value.none))).update S (Obj.mapSeq (·.pop))).get? c = some o := by
    intro c o hc e
    have n : S ≠ c := Nat.ne_of_gt (lt c hc)
    exact (Heap.get?_update_other _ _ n).trans ((Heap.get?_update_other _ _ n).trans ((Heap.get?_update_other _ _ n).trans (Heap.get?_push_of_some _ e)))
  have ty : ∀ {h : Heap}, h.get? z = some { cls := .type "zip", dict := none, data := .fields #[.none, .bool false, .bool false, .ref TI, .ref TO], slots := #[] } → Shared.TypeIs { s with heap := h } (.ref z) "zip" := fun q => ⟨_, q, rfl⟩
  have z1 : ((s.heap.push { cls := .type "list", data := .seq #[] }).update S (Obj.mapSeq (fun _ => (#[] : Array Value)))).get? z = _ := (Heap.get?_update_other _ _ ndl).trans (Heap.get?_push_of_some _ hz)
  show wpAny _ _ (do let old ← Builtin.List.listItems (.ref S); Builtin.List.listUpdate (.ref S) (fun _ => #[]); letGo old.toList.reverse; Builtin.List.listExtendWith (.ref S) (.ref z) .none) _ _ _
  refine wpAny_bind ?_
  unfold Builtin.List.listItems
  refine wpAny_bind (wpAny_seqItems e1 rfl (wpAny_pure ?_))
  show wpAny _ _ (updateSeq S (fun _ => #[]) >>= fun _ => letGo (#[] : Array Value).toList.reverse >>= fun _ => Builtin.List.listExtendWith (.ref S) (.ref z) .none) _ _ _
  refine wpAny_bind (wpAny_updateSeq e1 rfl (wpAny_bind (wpAny_letGo ?_)))
  unfold Builtin.List.listExtendWith
  refine wpAny_bind (wpAny_typeOf (ty z1) ?_)
  have h1 : Builtin.List.listSameRef (.ref S) (.ref z) = false := by simp [Builtin.List.listSameRef, ndl]
  simp only [h1, show (Value.type "zip" == Value.type "list") = false by decide, show (Value.type "zip" == Value.type "tuple") = false by decide, Bool.or_false, Bool.false_eq_true, if_false]
  refine wpAny_bind (wpAny_pyIter_zip z1 (wpAny_bind (wpAny_holding ?_)))
  unfold Builtin.List.listLengthHint
  refine wpAny_bind (wpAny_specialOf (ty z1) zip_len0 ?_)
  show wpAny _ _ (specialOf (Value.ref z) (Str.ofString "__length_hint__") >>= _) _ _ _
  refine wpAny_bind (wpAny_specialOf (ty z1) zip_hint0 (wpAny_pure ?_))
  show wpAny _ _ (rule "list.extend.makes-room" >>= fun _ => Builtin.List.listTouch (.ref S) >>= fun _ => again (.builtin "list.extend.loop" ⟨[.ref S, .ref z, .none], []⟩)) _ _ _
  refine wpAny_bind (wpAny_rule (wpAny_bind ?_))
  show wpAny _ _ (updateSeq S (·.push .none) >>= fun _ => updateSeq S (·.pop)) _ _ _
  refine wpAny_bind (wpAny_updateSeq e2 rfl (wpAny_updateSeq e3 rfl (wpAny_pure ⟨plainId_quiet PySem.F.plain_extend_loop _, ?_⟩) ?_ ?_) ?_ ?_)
  · refine zl_loop (X := X) (pins := pins) (σ := σ) (H0 := H) (TI := TI) (TO := TO) (i1 := i1) (i2 := i2) (a := a) (b := b) ha hb hl D hS0 (A := X.A.in1) (I.ok.hd hc) (fun H' s' ts J sm ls ln pr nw => ?_) xs.length 0 (upd H S (.lst [])) _ [] rfl (Nat.zero_le _) ?_
    · exact ⟨rfl, .ref S, H', J, rfl, hq S ts H' sm hS0 ls ln pr nw⟩
    · refine { inv := W3, sm := fun p u e => by rw [upd_ne (ne_of_none e hS0)]; exact e, ls := upd_same, len := rfl, prs := (fun j t h => by cases h), new := (fun t h => nomatch h), fp := ?_, zip := .inl ⟨rfl, keep z _ (by simp) hz⟩, ti := keep TI _ (by simp) ti, to := ?_, it1 := it1.at fun o e => keep i1 o (by simp) e, it2 := it2.at fun o e => keep i2 o (by simp) e }
      · intro c hc
        obtain ⟨q1, q2⟩ := fp c hc
        exact ⟨by rw [upd_ne (Nat.ne_of_lt (lt c hc))]; exact q1, q2⟩
      · obtain ⟨x, y, e⟩ := to
        exact ⟨x, y, keep TO _ (by simp) e⟩
  all_goals first | decide | (show _ ≤ sizeLine; decide) | (show _ ≤ sizeLine + 1; decide) | skip
theorem pe_listZip (hc : X.calm = true) (hg : Gl X "list") (hm : X.mg "list" = none) (hg2 : Gl X "zip") (hm2 : X.mg "zip" = none) (he : PE X e ta) (he2 : PE X e2 tb)
    (ns : starEach [.Call (.Name "zip" p2) [e, e2] [] zpos] X.env = (false, eval (.Call (.Name "zip" p2) [e, e2] [] zpos) X.env) :: starEach [] X.env := by rfl)
    (nz : starEach [e, e2] X.env = (false, eval e X.env) :: starEach [e2] X.env := by rfl) (nz2 : starEach [e2] X.env = (false, eval e2 X.env) :: starEach [] X.env := by rfl) (hpl : (backTo zpos (starEach [e2] X.env)).any (·.1) = false := by rfl) :
    PE X (.Call (.Name "list" p) [.Call (.Name "zip" p2) [e, e2] [] zpos] [] pos) (tListZip X.K ta tb) := by
  constructor
  intro pins s σ H Q I h
  have hz : PA X [e, e2] (tCons ta (tCons tb tNil)) := pa_cons he (pa_cons he2 pa_nil nz2) nz
  refine Call_ (ld_blt I hg hm boot_list (PyProof.Rows.callWith_type1 ?_ ns rfl))
  rw [ns]
  show wpAny _ _ (spliced ((false, eval (.Call (.Name "zip" p2) [e, e2] [] zpos) X.env) :: backTo pos (starEach [] X.env))) _ _ s
  refine Calls.spliced_cons (Call_ (ld_blt I hg2 hm2 PyProof.Rows.boot_zip (PyProof.Rows.callWith_type1 (thn (hz.run zpos pins s σ H (fun vs H1 => ∃ x y, vs = [x, y] ∧ rZL X.K x y H1 Q) I h) fun us s1 hu => ?_) nz hpl)))
  obtain ⟨vs, H1, I1, r1, x, y, rfl, a, b, xs, ys, rfl, rfl, ha, hb, hl, hq⟩ := hu
  obtain ⟨u1, u2, rfl, r1, r2⟩ := vals2 r1
  cases (show u1 = Value.ref a from r1)
  cases (show u2 = Value.ref b from r2)
  obtain ⟨its, rv, p1, _⟩ := I1.tuple ha
  obtain ⟨its2, rv2, p2, _⟩ := I1.tuple hb
  obtain ⟨o1, ho1, _⟩ := id p1
  obtain ⟨o2, ho2, _⟩ := id p2
  refine RZ.call_zipT (show s1.heap.IsTuple a its.toArray from p1) (show s1.heap.IsTuple b its2.toArray from p2) fun h' z1 z2 z3 z4 z5 _ hk => Calls.spliced_nil ?_
  refine list_of_zip hc (I1.kept (t' := s1.toks) hk) ha hb hl (PySem.W.ktu_apart s1.heap.objs.size a b (Heap.lt_size ho1) (Heap.lt_size ho2)) (fun c hcm => ?_) z1 z2 ⟨_, _, z3⟩ z4 z5 hq
  have hle : s1.heap.objs.size ≤ c := by
    simp only [List.mem_cons, List.not_mem_nil, or_false] at hcm
    rcases hcm with q | q | q | q | q <;> (rw [q]; first | exact Nat.le_refl _ | exact Nat.le_add_right _ _)
  exact I1.fpOk hle (I1.hok.fresh hle)
end
end WW

set_option maxHeartbeats 4000000
namespace WW
open PySem PySem.Spec PyProof.Rows L2
section
variable {X : Cx}
def rEqW (K : PySem.W.Frag) : R2 := fun x y H Q => ∃ d e, Dp K H x d ∧ Dp K H y e ∧ d.canLay0 = true ∧ e.canLay0 = true ∧ min d.depth e.depth ≤ 64 ∧ Q (.bl (PyData.eqv d e)) H
def rNeW (K : PySem.W.Frag) : R2 := fun x y H Q => ∃ d e, Dp K H x d ∧ Dp K H y e ∧ d.canLay0 = true ∧ e.canLay0 = true ∧ min d.depth e.depth ≤ 64 ∧ Q (.bl (!PyData.eqv d e)) H
theorem op_eqW (hu : X.A.units + 64 < cLine) : OpR X (compareOp .Eq) (rEqW X.K) := by
  intro pins s σ H x y v u Q I rx ry h
  obtain ⟨d, e, hd, he, sd, se, hm, q⟩ := h
  obtain ⟨as, r1⟩ := Dp.reads I d x v hd rx
  obtain ⟨bs, r2⟩ := Dp.reads I e y u he ry
  exact SeqAt.compareEq_reads r1 r2 sd se (by omega) ⟨.bl _, H, I, rfl, q⟩
theorem op_neW (hu : X.A.units + 64 < cLine) : OpR X (compareOp .NotEq) (rNeW X.K) := by
  intro pins s σ H x y v u Q I rx ry h
  obtain ⟨d, e, hd, he, sd, se, hm, q⟩ := h
  obtain ⟨as, r1⟩ := Dp.reads I d x v hd rx
  obtain ⟨bs, r2⟩ := Dp.reads I e y u he ry
  exact SeqAt.compareNe_reads r1 r2 sd se (by omega) ⟨.bl _, H, I, rfl, q⟩
end
theorem seq_of {t u : TS} {D : Ends} {σ : L2.St} {H : Hp} (h : t { D with nx := u D } σ H) : tSeq t u D σ H := h
theorem asg_call {sp : Sp} {W : WX} {ta : TA} {j : Nat} {D : Ends} {σ : L2.St} {H : Hp} {vs : List V} (hv : ∀ R : List V → Hp → Prop, R vs H → ta σ H R) (h : sp vs H (fun x H1 => D.nx (σ.set j (some x)) H1) (WE W σ)) : tAsg (tCallS sp (WE W) ta) (gName j) D σ H := hv _ h
theorem cut_of {t u : TS} {D : Ends} {σ : L2.St} {H : Hp} (Mid : L2.St → Hp → Prop) (h1 : t { D with nx := Mid } σ H) (h2 : ∀ σ' H', Mid σ' H' → u D σ' H') : Evl.tCut t u D σ H := ⟨Mid, h1, h2⟩
/-! ### rules in a comprehension: the written part told -/
section
variable {X : Cx} {K : PySem.W.Frag}
theorem kIx {r : PySem.W.Frag → R2} (hK : X.K = K) (h : IxR X (r X.K)) : IxR X (r K) := hK ▸ h
theorem kOp {r : PySem.W.Frag → R2} {f : Value → Value → Sem Value} (hK : X.K = K) (h : OpR X f (r X.K)) : OpR X f (r K) := hK ▸ h
theorem kCall {r : PySem.W.Frag → List V → Hp → VK → Prop} {f : Value} (hK : X.K = K) (h : CallR X f (r X.K)) : CallR X f (r K) := hK ▸ h
def rLenK (K : PySem.W.Frag) : List V → Hp → VK → Prop := fun xs H Q => ∃ x n, xs = [x] ∧ LenV K x H n ∧ Q (.int n) H
def rTupOfK (K : PySem.W.Frag) : List V → Hp → VK → Prop := fun xs H Q => ∃ p ys, xs = [.ref p] ∧ ((SqL K H p ys ∧ ∀ l, H l = none → Q (.ref l) (upd H l (.tup ys))) ∨ (SqT K H p ys ∧ Q (.ref p) H))
def rListOfK (K : PySem.W.Frag) : List V → Hp → VK → Prop := fun xs H Q => ∃ p ys, xs = [.ref p] ∧ (SqL K H p ys ∨ SqT K H p ys) ∧ ∀ l, H l = none → Q (.ref l) (upd H l (.lst ys))
theorem pi_listK {tg l : Expr} {tl : TE} (hK : X.K = K) (hl : PE X l tl) : PI X tg l (iList K tl) := hK ▸ pi_list hl
theorem pi_tupK {tg l : Expr} {tl : TE} (hK : X.K = K) (hl : PE X l tl) : PI X tg l (iTup K tl) := hK ▸ pi_tup hl
end
end WW

set_option maxHeartbeats 4000000
namespace WW
open PySem PySem.Spec PyProof.Rows L2
local macro_rules | `(tactic| walk_at "x") => `(tactic| simp only [tSeq, tNext, tAsg, gName, tRet, tRetN, tIfS, tOp, tUn, rI, rI0, rU, tTest, tB, tAnd, tOr, tNot, tAndV, tOrV, tNotV, tIf, tCons, tNil, tTup, tLst, tCall, tCallS, tMeth, tMake, tFld, sFld, tBM, tBM0, tCB, tSl, tPart, tNoPart, tDrop, tPar, tPar3, tAug, ipI, gTup, gCons, gNil, gSub, rSetL, rAppend, rPop, rIxL, rIxS, rIxT, rEq, rNe, tChain, tNever, tThen, tVar, tC, L2.start, List.map_cons, List.map_nil, List.length_cons, List.length_nil, List.replicate_succ, List.replicate_zero, List.append_nil, List.nil_append, List.cons_append, Nat.reduceAdd, Nat.reduceSub, Nat.add_zero, Nat.zero_add, Nat.sub_zero, Nat.sub_self,
  List.getElem?_cons_zero, List.getElem?_cons_succ, Option.some.injEq, exists_eq_left', exists_eq_left, exists_eq', exists_eq, exists_and_left, List.set_cons_zero, List.set_cons_succ, V.int.injEq, V.bl.injEq, V.str.injEq, V.ref.injEq, V.ty.injEq, List.cons.injEq, and_true, true_and, and_assoc, if_true, if_false, Bool.false_eq_true, reduceCtorEq, false_and, and_false, exists_false, false_or, or_false, Bool.not_true, Bool.not_false, decide_eq_true_eq, ite_true, ite_false, WE, cxOf_K, cxOf_mg, rSlS, scal, wipe, mem_low, mem_dig, mem_brk, mem_brk4, sgn_inj, Bool.decide_eq_true])

/-- two values of the same data, told equal -/
def spSame (K : PySem.W.Frag) : Sp := fun vs H Q _ => ∃ x y d, vs = [x, y] ∧ Dp K H x d ∧ Dp K H y d ∧ imm d = true ∧ szD d ≤ 1000000 ∧ ∀ H', Same H H' → Q (.bl true) H'
/-- the pairs that wait -/
structure SW (K : PySem.W.Frag) (H0 H : Hp) (Wa : Addr) (ts : List Addr) (ds : List PyData) : Prop where
  sm : Same H0 H
  w : H Wa = some (.lst (ts.map V.ref))
  bw : H0 Wa = none
  len : ts.length = ds.length
  it : ∀ (j : Nat) t, ts[j]? = some t → ∃ x y d, ds[j]? = some d ∧ SqT K H t [x, y] ∧ Dp K H x d ∧ Dp K H y d ∧ imm d = true
def szL : List PyData → Nat
  | [] => 0
  | d :: ds => szD d + szL ds
theorem szL_app (a b : List PyData) : szL (a ++ b) = szL a + szL b := by
  induction a with
  | nil => simp [szL]
  | cons d a ih => simp only [List.cons_append, szL, ih]; omega
theorem szL_len (a : List PyData) : a.length ≤ szL a := by
  induction a with
  | nil => exact Nat.le_refl _
  | cons d a ih =>
    have := szD_pos d
    simp only [szL, List.length_cons]
    omega
theorem szL_lt (a : List PyData) : szL a ≤ szDs a := by
  induction a with
  | nil => exact Nat.le_refl _
  | cons d a ih => simp only [szL, szDs]; omega
theorem imm_get {ds : List PyData} (h : imm.immAll ds = true) {i : Nat} {d : PyData} (e : ds[i]? = some d) : imm d = true := by
  induction ds generalizing i with
  | nil => cases e
  | cons c ds ih =>
    simp only [imm.immAll, Bool.and_eq_true] at h
    cases i with
    | zero => cases e; exact h.1
    | succ i => exact ih h.2 e
section
variable {P : Program} {w : World} {K : PySem.W.Frag} {mg : Str → Option Value} {base : Heap}
theorem o_same (W : Wd fa fn K mg) : OkF P w K mg base d_same 1 ["one", "two"] (spSame K) := by
  refine okfN true W (d := d_same) 1 sc_same rfl rfl (fun _ _ _ _ _ _ us hl => match us, hl with | [_, _], _ => rfl) ?len (fun cdv A outer s H vs Q E hr nd hu tk bo h => ?body)
  case len =>
    rintro vs H Q E ⟨_, _, _, rfl, _⟩
    rfl
  case body =>
    have po := bo.po; refine ⟨_, (pss_cons (ps_set (i := 2) nd rfl (by first | exact Or.inl rfl | exact Or.inr rfl) (pe_lst (pa_cons (pe_tup (pa_cons (pv 0) (pa_cons (pv 1) pa_nil))) pa_nil)))
    (pss_cons (ps_while po (pt_cmpR op_gt (pe_callB call_len (by rfl) (W.free 3) (by decide +kernel) (pa_cons (pv 2) pa_nil)) pe_int (nomark _))
      (pss_cons (ps_asg (pe_bm0 PySem.F.plainAttrs_list PySem.F.slot_list_pop PySem.F.type_list_pop mt_pop (pv 2)) (pg_tup rfl (pgs_cons (pg_name (i := 3) nd rfl (by first | exact Or.inl rfl | exact Or.inr rfl)) (pgs_cons (pg_name (i := 4) nd rfl (by first | exact Or.inl rfl | exact Or.inr rfl)) pgs_nil))))
    (pss_one (ps_if (PW.pt (pw_and (pt_val (pe_callB call_isiV (by rfl) (W.free 0) (by decide +kernel) (pa_cons (pv 3) (pa_cons (pe_bltn (v := .ty "tuple") (u := .type "tuple") rfl (W.free 4) (by decide +kernel) rfl) pa_nil)))) (pw_and1 (pt_val (pe_callB call_isiV (by rfl) (W.free 0) (by decide +kernel) (pa_cons (pv 4) (pa_cons (pe_bltn (v := .ty "tuple") (u := .type "tuple") rfl (W.free 4) (by decide +kernel) rfl) pa_nil))))))) (pss_cons (ps_if (pt_cmpR op_ne (pe_callB call_len (by rfl) (W.free 3) (by decide +kernel) (pa_cons (pv 3) pa_nil)) (pe_callB call_len (by rfl) (W.free 3) (by decide +kernel) (pa_cons (pv 4) pa_nil)) (nomark _)) (pss_one (ps_ret pe_bl)) pss_nil)
    (pss_one (ps_expr (pe_bm PySem.F.plainAttrs_list PySem.F.slot_list_extend PySem.F.type_list_extend mt_extend (pv 2) (pa_cons (pe_listZip rfl rfl (W.free 5) rfl (W.free 6) (pv 3) (pv 4)) pa_nil))))) (pss_one (ps_if (PW.pt (pw_or (pt_cmpR op_ne (pe_callB call_isiV (by rfl) (W.free 0) (by decide +kernel) (pa_cons (pv 3) (pa_cons (pe_bltn (v := .ty "bool") (u := .type "bool") rfl (W.free 1) (by decide +kernel) rfl) pa_nil))) (pe_callB call_isiV (by rfl) (W.free 0) (by decide +kernel) (pa_cons (pv 4) (pa_cons (pe_bltn (v := .ty "bool") (u := .type "bool") rfl (W.free 1) (by decide +kernel) rfl) pa_nil))) (nomark _)) (pw_or1 (pt_cmpR op_ne (pv 3) (pv 4) (nomark _))))) (pss_one (ps_ret pe_bl)) pss_nil))))))
    (pss_one (ps_ret pe_bl)))), ?_⟩
    obtain ⟨x, y, d, rfl, hx, hy, hi, hs, hq⟩ := h
    clear tk po bo
    walk_at "x"
    refine ⟨by decide, fun p hp => ⟨by decide, fun Wa hWa => ?_⟩⟩
    have nWp : Wa ≠ p := fun e => by rw [e, upd_same] at hWa; cases hWa
    rw [upd_ne nWp] at hWa
    have g0 : SW K H (upd (upd H p (HO.tup [x, y])) Wa (HO.lst [V.ref p])) Wa [p] [d] := by
      have sm : Same H (upd (upd H p (HO.tup [x, y])) Wa (HO.lst [V.ref p])) := Same.mut (Same.new hp) hWa
      refine ⟨sm, upd_same, hWa, rfl, fun j t ht => ?_⟩
      cases j with
      | succ j => simp at ht
      | zero =>
        cases ht
        exact ⟨x, y, d, rfl, SqT.of (by rw [upd_ne nWp.symm, upd_same]), Dp.sm sm d x hx, Dp.sm sm d y hy, hi⟩
    unfold tWhile
    refine ⟨fun m σ H' => ∃ ts ds y3 y4, σ = [some x, some y, some (.ref Wa), y3, y4] ∧ SW K H H' Wa ts ds ∧ m = szL ds ∧ szL ds ≤ 1000000, ⟨_, [p], [d], none, none, rfl, g0, rfl, by simpa [szL] using hs⟩, ?_⟩
    rintro m σ H1 ⟨ts, ds, y3, y4, rfl, g, rfl, hm⟩
    walk_at "x"
    have szl := sizeLine_eq
    have hl := szL_len ds
    refine ⟨ts.length, .inl ⟨_, SqL.of g.w, by simp⟩, ?_⟩
    rcases List.eq_nil_or_concat ds with e0 | ⟨ds', d1, e0⟩
    · subst e0
      rw [if_neg (by rw [g.len]; decide)]
      exact hq _ g.sm
    · rw [List.concat_eq_append] at e0
      subst e0
      obtain ⟨ts', t1, rfl⟩ : ∃ ts' t1, ts = ts' ++ [t1] := by
        rcases List.eq_nil_or_concat ts with e | ⟨a, b, e⟩
        · have := g.len
          rw [e] at this
          simp at this
        · exact ⟨a, b, by rw [e, List.concat_eq_append]⟩
      have ln : ts'.length = ds'.length := by
        have := g.len
        simpa using this
      rw [if_pos (by simp)]
      obtain ⟨x1, y1, d1', e1, q1, q2, q3, q4⟩ := g.it ts'.length t1 (by simp)
      have ed : d1' = d1 := by
        rw [ln] at e1
        simpa using e1.symm
      subst ed
      have ix : ((ts' ++ [t1]).map V.ref)[((ts' ++ [t1]).map V.ref).length - 1]? = some (.ref t1) := by simp
      have dl : ((ts' ++ [t1]).map V.ref).dropLast = ts'.map V.ref := by simp
      have tx : Tx H1 (upd H1 Wa (.lst (ts'.map V.ref))) := Tx.up g.w noTup_l
      rw [szL_app] at hm
      simp only [szL] at hm
      have g1 : SW K H (upd H1 Wa (.lst (ts'.map V.ref))) Wa ts' ds' := by
        refine ⟨Same.mut g.sm g.bw, upd_same, g.bw, ln, fun j t ht => ?_⟩
        have hj : j < ts'.length := (List.getElem?_eq_some_iff.mp ht).1
        obtain ⟨a, b, c, c1, c2, c3, c4, c5⟩ := g.it j t (by rw [List.getElem?_append_left hj]; exact ht)
        rw [List.getElem?_append_left (by omega)] at c1
        exact ⟨a, b, c, c1, tx.sqt c2, Dp.tx tx c a c5 c3, Dp.tx tx c b c5 c4, c5⟩
      refine ⟨fun σ' H' => ∃ m', m' < szL (ds' ++ [d1']) ∧ ∃ ts ds y3 y4, σ' = [some x, some y, some (.ref Wa), y3, y4] ∧ SW K H H' Wa ts ds ∧ m' = szL ds ∧ szL ds ≤ 1000000, fun σ' H' h => h, tyLst g.w, _, g.w, _, ix, t1, rfl, _, by rw [dl]; exact tx.sqt q1, rfl, _, _, rfl, _, _, rfl, rfl, ?_⟩
      rw [dl]
      have r2 := Dp.tx tx d1' x1 q4 q2
      have r3 := Dp.tx tx d1' y1 q4 q3
      simp only [rIsaV]
      walk_at "x"
      have next : ∃ m', m' < szL (ds' ++ [d1']) ∧ ∃ ts ds, SW K H (upd H1 Wa (.lst (ts'.map V.ref))) Wa ts ds ∧ m' = szL ds ∧ szL ds ≤ 1000000 := by
        have := szD_pos d1'
        exact ⟨szL ds', by rw [szL_app]; simp only [szL]; omega, ts', ds', g1, rfl, by omega⟩
      refine ⟨by decide, _, IsaV.of r2, ?_⟩
      cases d1' with
      | tuple es =>
        cases r2 with
        | @tup a as _ a1 a2 =>
          cases r3 with
          | @tup b bs _ b1 b2 =>
            have la := DpAll.length a2
            have lb := DpAll.length b2
            refine iteT ⟨by decide, _, IsaV.of (.tup b1 b2), iteT ⟨as.length, .inr ⟨as, a1, rfl⟩, bs.length, .inr ⟨bs, b1, rfl⟩, ?_⟩⟩
            rw [if_neg (by simp; omega)]
            refine ⟨tyLst g1.w, ?_⟩
            unfold tListZip
            walk_at "x"
            refine ⟨a, b, as, bs, rfl, rfl, a1, b1, by omega, fun S us H3 s3 hS h3 ln3 pr nw => ?_⟩
            have l3 := szL_lt es
            have l4 := szL_len es
            have l5 := szL_len ds'
            simp only [szD] at hm
            have wa3 := s3 _ _ g1.w
            refine ⟨Wa, S, _, _, rfl, rfl, wa3, h3, by simp; omega, ?_⟩
            have nSW : S ≠ Wa := fun e => by rw [e, g1.w] at hS; cases hS
            have tx3 : Tx (upd H1 Wa (.lst (ts'.map V.ref))) (upd H3 Wa (.lst (ts'.map V.ref ++ us.map V.ref))) := (Tx.of s3).trans (Tx.up wa3 noTup_l)
            refine ⟨szL (ds' ++ es), by rw [szL_app, szL_app]; simp only [szL, szD]; omega, ts' ++ us, ds' ++ es, ?_, rfl, by rw [szL_app]; omega⟩
            refine ⟨Same.mut (Same.trans g1.sm s3) g1.bw, by rw [upd_same, List.map_append], g1.bw, by rw [List.length_append, List.length_append]; omega, fun j t ht => ?_⟩
            by_cases hj : j < ts'.length
            · rw [List.getElem?_append_left hj] at ht
              obtain ⟨c0, c1, c2, c3, c4, c5, c6, c7⟩ := g1.it j t ht
              exact ⟨c0, c1, c2, by rw [List.getElem?_append_left (by omega)]; exact c3, tx3.sqt c4, Dp.tx tx3 c2 c0 c7 c5, Dp.tx tx3 c2 c1 c7 c6, c7⟩
            · rw [List.getElem?_append_right (by omega)] at ht
              obtain ⟨c0, c1, c2, c3, c4⟩ := pr _ t ht
              obtain ⟨e, e1', e2'⟩ := DpAll.get a2 c2
              obtain ⟨e', e3', e4'⟩ := DpAll.get b2 c3
              rw [e1'] at e3'
              cases e3'
              have im := imm_get (by simpa [imm] using q4) e1'
              refine ⟨c0, c1, e, by rw [List.getElem?_append_right (by omega), ← ln]; exact e1', SqT.of ?_, Dp.tx tx3 e c0 im e2', Dp.tx tx3 e c1 im e4', im⟩
              rw [upd_ne (fun z => by rw [z, wa3] at c4; cases c4)]
              exact c4
      | list es => simp [imm] at q4
      | dict es => simp [imm] at q4
      | _ =>
        cases r2
        cases r3
        refine iteF ⟨by decide, _, rfl, by decide, _, rfl, ?_⟩
        simpa using next
end
end WW

set_option maxHeartbeats 4000000
namespace WW
open PySem PySem.Spec PyProof.Rows L2
local macro_rules | `(tactic| walk_at "x") => `(tactic| simp only [tSeq, tNext, tAsg, gName, tRet, tRetN, tIfS, tOp, tUn, rI, rI0, rU, tTest, tB, tAnd, tOr, tNot, tAndV, tOrV, tNotV, tIf, tCons, tNil, tTup, tLst, tCall, tCallS, tMeth, tMake, tFld, sFld, tBM, tBM0, tCB, tSl, tPart, tNoPart, tDrop, tPar, tPar3, tAug, ipI, gTup, gCons, gNil, gSub, rSetL, rAppend, rPop, rIxL, rIxS, rIxT, rEq, rNe, tChain, tNever, tThen, tVar, tC, L2.start, List.map_cons, List.map_nil, List.length_cons, List.length_nil, List.replicate_succ, List.replicate_zero, List.append_nil, List.nil_append, List.cons_append, Nat.reduceAdd, Nat.reduceSub, Nat.add_zero, Nat.zero_add, Nat.sub_zero, Nat.sub_self,
  List.getElem?_cons_zero, List.getElem?_cons_succ, Option.some.injEq, exists_eq_left', exists_eq_left, exists_eq', exists_eq, exists_and_left, List.set_cons_zero, List.set_cons_succ, V.int.injEq, V.bl.injEq, V.str.injEq, V.ref.injEq, V.ty.injEq, List.cons.injEq, and_true, true_and, and_assoc, if_true, if_false, Bool.false_eq_true, reduceCtorEq, false_and, and_false, exists_false, false_or, or_false, Bool.not_true, Bool.not_false, decide_eq_true_eq, ite_true, ite_false, WE, cxOf_K, cxOf_mg, rSlS, scal, wipe, mem_low, mem_dig, mem_brk, mem_brk4, sgn_inj, Bool.decide_eq_true])

/-! ### isinstance(x, Reply) -/
def IsRep (K : PySem.W.Frag) (H : Hp) (C : Addr) (x : V) (b : Bool) : Prop := match x with
  | .non => b = false
  | .bl _ => b = false
  | .int _ => b = false
  | .str _ => b = false
  | .ref a => (∃ xs, SqL K H a xs ∧ b = false) ∨ (∃ xs, SqT K H a xs ∧ b = false) ∨ (∃ dx fs, H a = some (.ins C dx fs) ∧ b = true)
  | _ => False
theorem IsRep.of {K : PySem.W.Frag} {H : Hp} {C : Addr} {x : V} {d : PyData} (h : Dp K H x d) : IsRep K H C x false := by
  cases h with
  | non => rfl
  | bl b => rfl
  | int i => rfl
  | str z => rfl
  | lst h1 _ => exact .inl ⟨_, h1, rfl⟩
  | tup h1 _ => exact .inr (.inl ⟨_, h1, rfl⟩)
def rIsR (K : PySem.W.Frag) : List V → Hp → VK → Prop := fun xs H Q => ∃ x, xs = [x, V.ref (He.ga K "Reply")] ∧ ∃ b, IsRep K H (He.ga K "Reply") x b ∧ Q (.bl b) H
structure RepC (K : PySem.W.Frag) : Prop where
  own : ownB K (He.ga K "Reply") = true
  cls : Cls K (He.ga K "Reply")
theorem call_isR {X : Cx} (R : RepC X.K) : CallR X (.builtin "isinstance") (rIsR X.K) := by
  intro pins s σ H xs us Q I r h
  obtain ⟨x, rfl, b, hb, hq⟩ := h
  refine call_isi pins s σ H _ us Q I r ?_
  obtain ⟨o1, o2⟩ := Bool.and_eq_true_iff.mp R.own
  obtain ⟨o1, o3⟩ := Bool.and_eq_true_iff.mp o1
  obtain ⟨p1, o2⟩ := Bool.and_eq_true_iff.mp o2
  obtain ⟨p2, o2⟩ := Bool.and_eq_true_iff.mp o2
  obtain ⟨p3, p4⟩ := Bool.and_eq_true_iff.mp o2
  have no : ∀ t ∈ ["NoneType", "int", "str", "tuple", "list", "bool"], PySem.W.kitOne X.K (.type t) (.ref (He.ga X.K "Reply")) = some false := fun t ht => of_decide_eq_true (List.all_eq_true.mp o1 t ht)
  have fin : ∀ {t : Value} {b : Bool}, TyX X.K H x t → PySem.W.kitOne X.K t (.ref (He.ga X.K "Reply")) = some b → Q (.bl b) H → rIsi X.K [x, V.ref (He.ga X.K "Reply")] H Q := fun h1 h2 q => ⟨x, .ref _, _, .ref _, _, rfl, .own _, h1, h2, q⟩
  cases x with
  | non => cases (show b = false from hb); exact fin (.base .non) (no _ (by decide)) hq
  | bl k => cases (show b = false from hb); exact fin (.base (.bl k)) (no _ (by decide)) hq
  | int k => cases (show b = false from hb); exact fin (.base (.int k)) (no _ (by decide)) hq
  | str k => cases (show b = false from hb); exact fin (.base (.str k)) (no _ (by decide)) hq
  | ref a =>
    rcases hb with ⟨ys, h1, rfl⟩ | ⟨ys, h1, rfl⟩ | ⟨dx, fs, h1, rfl⟩
    · exact fin (tyx_l h1) (no _ (by decide)) hq
    · exact fin (tyx_t h1) (no _ (by decide)) hq
    · exact fin (.base (.ins h1 R.cls (He.eqO_ok p1) (He.eqO_ok p2) (of_decide_eq_true p3) (of_decide_eq_true p4))) (by unfold PySem.W.kitOne; rw [if_pos (beq_self_eq_true _)]) hq
  | byt _ => exact hb.elim
  | flt _ => exact hb.elim
  | ty _ => exact hb.elim
section
variable {K : PySem.W.Frag} {mg : Str → Option Value}
theorem Wd.rep (W : Wd fa fn K mg) : RepC K := by
  obtain ⟨e1, e2⟩ := Bool.and_eq_true_iff.mp W.ex
  obtain ⟨e3, e4⟩ := Bool.and_eq_true_iff.mp e2
  obtain ⟨e5, e6⟩ := Bool.and_eq_true_iff.mp e4
  exact ⟨e5, W.cls 59⟩
theorem Wd.strC (W : Wd fa fn K mg) : StrC K (He.ga K "Malformed") := by
  obtain ⟨e1, e2⟩ := Bool.and_eq_true_iff.mp W.ex
  obtain ⟨e3, e4⟩ := Bool.and_eq_true_iff.mp e2
  obtain ⟨e5, e6⟩ := Bool.and_eq_true_iff.mp e3
  exact ⟨He.eqO_ok e5, of_decide_eq_true e6⟩
theorem Wd.nil (W : Wd fa fn K mg) (H : Hp) : SqT K H (dflR K) [] := by
  obtain ⟨e1, e2⟩ := Bool.and_eq_true_iff.mp W.ex
  obtain ⟨e3, e4⟩ := Bool.and_eq_true_iff.mp e2
  obtain ⟨e5, e6⟩ := Bool.and_eq_true_iff.mp e4
  exact nilB_ok e6 H
theorem Wd.marks (W : Wd fa fn K mg) (H : Hp) : SqT K H (He.ga K "MARKS") [.str "> ", .str "= ", .str "# "] := by
  obtain ⟨e1, e2⟩ := Bool.and_eq_true_iff.mp W.ex
  exact He.tupB_ok e1 H
end
/-! ### Reply -/
abbrev cRep (K : PySem.W.Frag) : Addr := He.ga K "Reply"
def repF (k t d : V) : List (Str × V) := [("kind", k), ("text", t), ("data", d)]
def spReplyInit (K : PySem.W.Frag) : Sp := fun vs H Q _ => ∃ r dx k t d, vs = [.ref r, k, t, d] ∧ H r = some (.ins (cRep K) dx []) ∧ Q .non (upd H r (.ins (cRep K) dx (repF k t d)))
abbrev psI : List Str := ["self", "kind", "text", "data"]
structure OkI (P : Program) (w : World) (K : PySem.W.Frag) (mg : Str → Option Value) (base : Heap) : Prop where
  ex : ∃ fd, FnOk P w K mg base (CT true P w) 1 (He.fAd K d_Reply___init__.at_) fd psI (spReplyInit K) ∧ Binds K fd psI [] ∧ (∃ ds, Vals [.str "", .ref (dflR K)] ds ∧ Binds K fd psI ds) ∧ (∃ ds, Vals [.ref (dflR K)] ds ∧ Binds K fd psI ds)
section
variable {P : Program} {w : World} {K : PySem.W.Frag} {mg : Str → Option Value} {base : Heap}
theorem o_Reply___init__ (W : Wd fa fn K mg) : OkI P w K mg base := by
  obtain ⟨fd, F⟩ := W.c.def_ 14 (d := d_Reply___init__) rfl
  have dv : d_Reply___init__.dvs K = [.str "", .ref (dflR K)] := rfl
  rw [dv] at F
  have bd : ∀ n j : Nat, n + (2 - j) = 4 → 2 ≤ n → j ≤ 2 → ∃ ds, Vals (([V.str "", .ref (dflR K)] : List V).drop j) ds ∧ Binds K fd psI ds := by
    intro n j h1 h2 h3
    refine F.binds1 n j (by simp) h1 ?_
    intro T kV doc pm an cdv ct us its lu li
    match its, li with
    | [a, b], _ =>
      have hj : j = n - 2 := by omega
      subst hj
      match us, lu with
      | [x, y], e => cases e; exact ⟨_, rfl, rfl⟩
      | [x, y, z], e => cases e; exact ⟨_, rfl, rfl⟩
      | [x, y, z, v], e => cases e; exact ⟨_, rfl, rfl⟩
      | [], e => simp at e; omega
      | [_], e => simp at e; omega
      | _ :: _ :: _ :: _ :: _ :: _, e => simp at e; omega
  refine ⟨fd, F.ok (CX := CT true P w) (k := 0) (sp := spReplyInit K) sc_Reply___init__ ?_ (fun cdv A outer s H vs Q E hr h => ?_), ?_, ?_, ?_⟩
  · rintro vs H Q E ⟨_, _, _, _, _, rfl, _⟩
    rfl
  · have nd := sc_Reply___init__.nd
    refine ⟨_, (pss_cons (ps_fld (pv 0) (pv 1) rfl)
    (pss_cons (ps_fld (pv 0) (pv 2) rfl)
    (pss_one (ps_fld (pv 0) (pv 3) rfl)))), ?_⟩
    obtain ⟨r, dx, k, t, d, rfl, h1, hq⟩ := h
    have cl := W.cls (x := "Reply") 59
    have n1 := W.noat (x := "Reply") (f := "kind") 55
    have n2 := W.noat (x := "Reply") (f := "text") 56
    have n3 := W.noat (x := "Reply") (f := "data") 57
    simp only [tSeq, tNext, tAsg, gName, tRet, tRetN, tIfS, tOp, tUn, rI, rI0, rU, tTest, tB, tAnd, tOr, tNot, tAndV, tOrV, tNotV, tIf, tCons, tNil, tTup, tLst, tCall, tCallS, tMeth, tMake, tFld, sFld, tBM, tBM0, tCB, tSl, tPart, tNoPart, tDrop, tPar, tPar3, tAug, ipI, gTup, gCons, gNil, gSub, rSetL, rAppend, rPop, rIxL, rIxS, rIxT, rEq, rNe, tChain, tNever, tThen, tVar, tC, L2.start, List.map_cons, List.map_nil, List.length_cons, List.length_nil, List.replicate_succ, List.replicate_zero, List.append_nil, List.nil_append, List.cons_append, Nat.reduceAdd, Nat.reduceSub, Nat.add_zero, Nat.zero_add, Nat.sub_zero, Nat.sub_self,
  List.getElem?_cons_zero, List.getElem?_cons_succ, Option.some.injEq, exists_eq_left', exists_eq_left, exists_eq', exists_eq, exists_and_left, List.set_cons_zero, List.set_cons_succ, V.int.injEq, V.bl.injEq, V.str.injEq, V.ref.injEq, V.ty.injEq, List.cons.injEq, and_true, true_and, and_assoc, if_true, if_false, Bool.false_eq_true, reduceCtorEq, false_and, and_false, exists_false, false_or, or_false, Bool.not_true, Bool.not_false, decide_eq_true_eq, ite_true, ite_false, WE, cxOf_K, cxOf_mg, rSlS, scal, wipe, mem_low, mem_dig, mem_brk, mem_brk4, sgn_inj, Bool.decide_eq_true, HO.ins.injEq, HO.lst.injEq, HO.tup.injEq, upd_same, ne_eq, not_false_eq_true, h1, cl, n1, n2, n3]
    have e1 : putF (Str.ofString "kind") k [] = [((Str.ofString "kind"), k)] := rfl
    have e2 : putF (Str.ofString "text") t [((Str.ofString "kind"), k)] = [((Str.ofString "kind"), k), ((Str.ofString "text"), t)] := by simp only [putF]; rw [if_neg (by decide)]
    have e3 : putF (Str.ofString "data") d [((Str.ofString "kind"), k), ((Str.ofString "text"), t)] = repF k t d := by simp only [putF]; rw [if_neg (by decide), if_neg (by decide)]; rfl
    rw [e1, e2, e3]
    refine ⟨by decide, by simp, by simp, ?_⟩
    rw [upd_upd, upd_upd]
    exact hq
  · obtain ⟨ds, v, b⟩ := bd 4 2 rfl (by decide) (by decide)
    cases v
    exact b
  · exact bd 2 0 rfl (by decide) (by decide)
  · exact bd 3 1 rfl (by decide) (by decide)
/-- a Reply, by the data of its fields -/
def RepV (K : PySem.W.Frag) (H : Hp) (a : Addr) (k t d : PyData) : Prop := ∃ dx kv tv dv, H a = some (.ins (cRep K) dx (repF kv tv dv)) ∧ Dp K H kv k ∧ Dp K H tv t ∧ Dp K H dv d
theorem RepV.same {K : PySem.W.Frag} {H H' : Hp} {a : Addr} {k t d : PyData} (h : RepV K H a k t d) (s : Same H H') : RepV K H' a k t d := by
  obtain ⟨dx, kv, tv, dv, h1, h2, h3, h4⟩ := h
  exact ⟨dx, kv, tv, dv, s _ _ h1, Dp.sm s _ _ h2, Dp.sm s _ _ h3, Dp.sm s _ _ h4⟩
/-- two Replys of the same data -/
def RepE (K : PySem.W.Frag) (a b : Addr) (H : Hp) : Prop := ∃ k t d, RepV K H a k t d ∧ RepV K H b k t d ∧ imm k = true ∧ imm t = true ∧ imm d = true ∧ szD k ≤ 200000 ∧ szD t ≤ 200000 ∧ szD d ≤ 200000
theorem repF_k {k t d : V} : List.lookup (Str.ofString "kind") (repF k t d) = some k := rfl
theorem repF_t {k t d : V} : List.lookup (Str.ofString "text") (repF k t d) = some t := by rfl
theorem repF_d {k t d : V} : List.lookup (Str.ofString "data") (repF k t d) = some d := by rfl
theorem o_Reply___eq__ (W : Wd fa fn K mg) : OkF P w K mg base d_Reply___eq__ 2 ["self", "other"] (spEq (RepE K)) := by
  have o_same := o_same (P := P) (w := w) (base := base) W
  obtain ⟨fd_same, F_same, b_same, k_same⟩ := o_same.ex
  refine okfN true W (d := d_Reply___eq__) 15 sc_Reply___eq__ rfl rfl (fun _ _ _ _ _ _ us hl => match us, hl with | [_, _], _ => rfl) ?len (fun cdv A outer s H vs Q E hr nd hu tk bo h => ?body)
  case len =>
    rintro vs H Q E ⟨_, _, rfl, _⟩
    rfl
  case body =>
    have po := bo.po; refine ⟨_, (pss_cons (ps_if (pt_not (pt_val (pe_callB (call_isR W.rep) (by rfl) (W.free 0) (by decide +kernel) (pa_cons (pv 1) (pa_cons (C8.pe_gc rfl (W.refV 32)) pa_nil))))) (pss_one (ps_ret pe_bl)) pss_nil)
    (pss_one (ps_ret (by exact (pe_callS F_same (hr.mono (by first | decide | omega)) rfl (W.glo 31) k_same b_same (fun σ => passAt tk σ) (by exact (pa_cons (pe_tup (pa_cons (pe_fld (pv 0) rfl) (pa_cons (pe_fld (pv 0) rfl) (pa_cons (pe_fld (pv 0) rfl) pa_nil)))) (pa_cons (pe_tup (pa_cons (pe_fld (pv 1) rfl) (pa_cons (pe_fld (pv 1) rfl) (pa_cons (pe_fld (pv 1) rfl) pa_nil)))) pa_nil)))))))), ?_⟩
    obtain ⟨a, b, rfl, ⟨k, t, d, ⟨dx, k1, t1, d1, h1, h2, h3, h4⟩, ⟨dy, k2, t2, d2, g1, g2, g3, g4⟩, i1, i2, i3, z1, z2, z3⟩, hq⟩ := h
    clear tk po bo
    have cl := W.cls (x := "Reply") 59
    have n1 := W.noat (x := "Reply") (f := "kind") 55
    have n2 := W.noat (x := "Reply") (f := "text") 56
    have n3 := W.noat (x := "Reply") (f := "data") 57
    walk_at "x"
    simp only [rIsR]
    walk_at "x"
    refine ⟨_, .inr (.inr ⟨_, _, g1, rfl⟩), iteF ?_⟩
    simp only [tSeq, tNext, tAsg, gName, tRet, tRetN, tIfS, tOp, tUn, rI, rI0, rU, tTest, tB, tAnd, tOr, tNot, tAndV, tOrV, tNotV, tIf, tCons, tNil, tTup, tLst, tCall, tCallS, tMeth, tMake, tFld, sFld, tBM, tBM0, tCB, tSl, tPart, tNoPart, tDrop, tPar, tPar3, tAug, ipI, gTup, gCons, gNil, gSub, rSetL, rAppend, rPop, rIxL, rIxS, rIxT, rEq, rNe, tChain, tNever, tThen, tVar, tC, L2.start, List.map_cons, List.map_nil, List.length_cons, List.length_nil, List.replicate_succ, List.replicate_zero, List.append_nil, List.nil_append, List.cons_append, Nat.reduceAdd, Nat.reduceSub, Nat.add_zero, Nat.zero_add, Nat.sub_zero, Nat.sub_self,
  List.getElem?_cons_zero, List.getElem?_cons_succ, Option.some.injEq, exists_eq_left', exists_eq_left, exists_eq', exists_eq, exists_and_left, List.set_cons_zero, List.set_cons_succ, V.int.injEq, V.bl.injEq, V.str.injEq, V.ref.injEq, V.ty.injEq, List.cons.injEq, and_true, true_and, and_assoc, if_true, if_false, Bool.false_eq_true, reduceCtorEq, false_and, and_false, exists_false, false_or, or_false, Bool.not_true, Bool.not_false, decide_eq_true_eq, ite_true, ite_false, WE, cxOf_K, cxOf_mg, rSlS, scal, wipe, mem_low, mem_dig, mem_brk, mem_brk4, sgn_inj, Bool.decide_eq_true, HO.ins.injEq, HO.lst.injEq, HO.tup.injEq, upd_same, ne_eq, not_false_eq_true, h1, g1, cl, n1, n2, n3, repF_k, repF_t, repF_d]
    refine ⟨by decide, fun p hp => ?_⟩
    have nb : b ≠ p := ne_of_none g1 hp
    simp only [tSeq, tNext, tAsg, gName, tRet, tRetN, tIfS, tOp, tUn, rI, rI0, rU, tTest, tB, tAnd, tOr, tNot, tAndV, tOrV, tNotV, tIf, tCons, tNil, tTup, tLst, tCall, tCallS, tMeth, tMake, tFld, sFld, tBM, tBM0, tCB, tSl, tPart, tNoPart, tDrop, tPar, tPar3, tAug, ipI, gTup, gCons, gNil, gSub, rSetL, rAppend, rPop, rIxL, rIxS, rIxT, rEq, rNe, tChain, tNever, tThen, tVar, tC, L2.start, List.map_cons, List.map_nil, List.length_cons, List.length_nil, List.replicate_succ, List.replicate_zero, List.append_nil, List.nil_append, List.cons_append, Nat.reduceAdd, Nat.reduceSub, Nat.add_zero, Nat.zero_add, Nat.sub_zero, Nat.sub_self,
  List.getElem?_cons_zero, List.getElem?_cons_succ, Option.some.injEq, exists_eq_left', exists_eq_left, exists_eq', exists_eq, exists_and_left, List.set_cons_zero, List.set_cons_succ, V.int.injEq, V.bl.injEq, V.str.injEq, V.ref.injEq, V.ty.injEq, List.cons.injEq, and_true, true_and, and_assoc, if_true, if_false, Bool.false_eq_true, reduceCtorEq, false_and, and_false, exists_false, false_or, or_false, Bool.not_true, Bool.not_false, decide_eq_true_eq, ite_true, ite_false, WE, cxOf_K, cxOf_mg, rSlS, scal, wipe, mem_low, mem_dig, mem_brk, mem_brk4, sgn_inj, Bool.decide_eq_true, HO.ins.injEq, HO.lst.injEq, HO.tup.injEq, upd_same, ne_eq, not_false_eq_true, g1, upd_ne nb, cl, n1, n2, n3, repF_k, repF_t, repF_d]
    refine ⟨by decide, fun q hq' => ?_⟩
    have nqp : q ≠ p := fun e => by rw [e, upd_same] at hq'; cases hq'
    have sm : Same H (upd (upd H p (.tup [k1, t1, d1])) q (.tup [k2, t2, d2])) := by
      rw [upd_ne nqp] at hq'
      exact Same.mut (Same.new hp) hq'
    have dp : ∀ {v d}, Dp K H v d → Dp K (upd (upd H p (.tup [k1, t1, d1])) q (.tup [k2, t2, d2])) v d := fun h => Dp.sm sm _ _ h
    refine ⟨.ref p, .ref q, .tuple [k, t, d], rfl, .tup (SqT.of (by rw [upd_ne nqp.symm, upd_same])) (.cons (dp h2) (.cons (dp h3) (.cons (dp h4) .nil))), .tup (SqT.of upd_same) (.cons (dp g2) (.cons (dp g3) (.cons (dp g4) .nil))), by simp [imm, imm.immAll, i1, i2, i3], by simp only [szD, szDs]; omega, fun H' s' => hq H' fun c u e => s' _ _ (sm _ _ e)⟩
end
end WW

set_option maxHeartbeats 4000000
namespace WW
open PySem PySem.Spec PyProof.Rows L2
local macro_rules | `(tactic| walk_at "x") => `(tactic| simp only [tSeq, tNext, tAsg, gName, tRet, tRetN, tIfS, tOp, tUn, rI, rI0, rU, tTest, tB, tAnd, tOr, tNot, tAndV, tOrV, tNotV, tIf, tCons, tNil, tTup, tLst, tCall, tCallS, tMeth, tMake, tFld, sFld, tBM, tBM0, tCB, tSl, tPart, tNoPart, tDrop, tPar, tPar3, tAug, ipI, gTup, gCons, gNil, gSub, rSetL, rAppend, rPop, rIxL, rIxS, rIxT, rEq, rNe, tChain, tNever, tThen, tVar, tC, L2.start, List.map_cons, List.map_nil, List.length_cons, List.length_nil, List.replicate_succ, List.replicate_zero, List.append_nil, List.nil_append, List.cons_append, Nat.reduceAdd, Nat.reduceSub, Nat.add_zero, Nat.zero_add, Nat.sub_zero, Nat.sub_self,
  List.getElem?_cons_zero, List.getElem?_cons_succ, Option.some.injEq, exists_eq_left', exists_eq_left, exists_eq', exists_eq, exists_and_left, List.set_cons_zero, List.set_cons_succ, V.int.injEq, V.bl.injEq, V.str.injEq, V.ref.injEq, V.ty.injEq, List.cons.injEq, and_true, true_and, and_assoc, if_true, if_false, Bool.false_eq_true, reduceCtorEq, false_and, and_false, exists_false, false_or, or_false, Bool.not_true, Bool.not_false, decide_eq_true_eq, ite_true, ite_false, WE, cxOf_K, cxOf_mg, rSlS, scal, wipe, mem_low, mem_dig, mem_brk, mem_brk4, sgn_inj, Bool.decide_eq_true])

/-! ### entries, plain -/
def textL (l : List Nat) : Bool := !decide (10 ∈ l)
def textD : PyData → Bool
  | .str z => textL z.cps.toList
  | _ => false
inductive RV
  | data (d : PyData)
  | rep (k t d : PyData)
inductive EV
  | other
  | tup (n : Nat)
  | pair (x : PyData) (r : RV)
def RvV (K : PySem.W.Frag) (H : Hp) (v : V) : RV → Prop
  | .data d => Dp K H v d
  | .rep k t d => ∃ a, v = .ref a ∧ RepV K H a k t d
def EvV (K : PySem.W.Frag) (H : Hp) (v : V) : EV → Prop
  | .other => IsaV K H v "tuple" false
  | .tup n => ∃ a xs, v = .ref a ∧ SqT K H a xs ∧ xs.length = n ∧ n ≠ 2
  | .pair x r => ∃ a u y, v = .ref a ∧ SqT K H a [u, y] ∧ Dp K H u x ∧ RvV K H y r
/-- the three rows of an entry -/
def rowsE (l k t w : List Nat) : List Nat := ([62, 32] ++ l ++ [10]) ++ ([61, 32] ++ k ++ [32] ++ t ++ [10]) ++ ([35, 32] ++ w ++ [10])
def outE : EV → Option (List Nat)
  | .pair x (.rep k t d) => if textD x && (wordD k && (textD t && isa d "tuple")) then (wD 1 d).map fun w => rowsE (strD x) (strD k) (strD t) w else none
  | _ => none
def outAll : List EV → Option (List Nat)
  | [] => some []
  | e :: es => (outE e).bind fun a => (outAll es).map fun b => a ++ b
/-- bounds -/
def smD (d : PyData) : Prop := smallD d = true ∧ szD d ≤ 100000 ∧ (∀ t, wD 1 d = some t → t.length ≤ 100000) ∧ ∀ z, d = .str z → z.length ≤ 100000
def smE : EV → Prop
  | .pair x (.rep k t d) => smD x ∧ smD k ∧ smD t ∧ smD d
  | .pair x (.data _) => smD x
  | _ => True
theorem RvV.same {K : PySem.W.Frag} {H H' : Hp} {v : V} {r : RV} (s : Same H H') (h : RvV K H v r) : RvV K H' v r := by
  cases r with
  | data d => exact Dp.sm s _ _ h
  | rep k t d =>
    obtain ⟨a, e, h⟩ := h
    exact ⟨a, e, h.same s⟩
theorem IsaV.same {K : PySem.W.Frag} {H H' : Hp} {v : V} {n : String} {b : Bool} (s : Same H H') (h : IsaV K H v n b) : IsaV K H' v n b := by
  cases v with
  | ref a =>
    rcases h with ⟨xs, h, e⟩ | ⟨xs, h, e⟩
    · exact .inl ⟨xs, s.seq h, e⟩
    · exact .inr ⟨xs, (Tx.of s).sqt h, e⟩
  | _ => exact h
theorem EvV.same {K : PySem.W.Frag} {H H' : Hp} {v : V} {e : EV} (s : Same H H') (h : EvV K H v e) : EvV K H' v e := by
  cases e with
  | other => exact IsaV.same s h
  | tup n =>
    obtain ⟨a, xs, e, h, l⟩ := h
    exact ⟨a, xs, e, (Tx.of s).sqt h, l⟩
  | pair x r =>
    obtain ⟨a, u, y, e, h, h1, h2⟩ := h
    exact ⟨a, u, y, e, (Tx.of s).sqt h, Dp.sm s _ _ h1, h2.same s⟩
def spIsText (K : PySem.W.Frag) : Sp := fun vs H Q _ => ∃ x d, vs = [x] ∧ Dp K H x d ∧ Q (.bl (textD d)) H
/-- it may be raised, with any short text -/
def BadS (K : PySem.W.Frag) (E : XK) (H : Hp) : Prop := ∀ z : Str, z.length ≤ 100 → BadT K E H z
theorem BadS.same {K : PySem.W.Frag} {E : XK} {H H1 : Hp} (b : BadS K E H) (s : Same H H1) : BadS K E H1 := fun z hz => (b z hz).same s
theorem BadS.x {K : PySem.W.Frag} {E : XK} {H H1 : Hp} {z : Str} (b : BadS K E H) (s : Same H H1) (hz : z.length ≤ 100 := by decide +kernel) : tX (.ref (He.ga K "Malformed")) z H1 E := (b z hz).x s
def spWriteDiary (K : PySem.W.Frag) : Sp := fun vs H Q E => ∃ x, vs = [x] ∧ ((IsaV K H x "list" false ∧ BadS K E H) ∨
  ∃ a xs es, x = .ref a ∧ SqL K H a xs ∧ xs.length = es.length ∧ (∀ (i : Nat) v, xs[i]? = some v → ∃ e, es[i]? = some e ∧ EvV K H v e) ∧ (∀ e ∈ es, smE e) ∧ es.length ≤ 20 ∧ (match outAll es with
    | some t => ∀ H', Same H H' → Q (.str (S t)) H'
    | none => BadS K E H))
/-- the loop's state -/
def wdInv (K : PySem.W.Frag) (H : Hp) (a : Addr) (es : List EV) (p : Addr) (i : Nat) (σ : L2.St) (H' : Hp) : Prop := ∃ (fs : List (List Nat)) (y2 y3 y4 y5 : Option V), σ = [some (.ref a), some (.ref p), y2, y3, y4, y5] ∧ Same H H' ∧ H' p = some (.lst (fs.map fun f => V.str (S f))) ∧ H p = none ∧
  fs.length ≤ 3 * i ∧ fs.flatten.length ≤ 500000 * i ∧ outAll es = (outAll (es.drop i)).map fun t => fs.flatten ++ t
theorem nl_lit : Str.ofString "\n" = S [10] := by decide +kernel
section
variable {P : Program} {w : World} {K : PySem.W.Frag} {mg : Str → Option Value} {base : Heap}
theorem o_is_text (W : Wd fa fn K mg) : OkF P w K mg base d_is_text 1 ["value"] (spIsText K) := by
  refine okfN true W (d := d_is_text) 16 sc_is_text rfl rfl (fun _ _ _ _ _ _ us hl => match us, hl with | [_], _ => rfl) ?len (fun cdv A outer s H vs Q E hr nd hu tk bo h => ?body)
  case len =>
    rintro vs H Q E ⟨_, _, rfl, _⟩
    rfl
  case body =>
    have po := bo.po; refine ⟨_, (pss_one (ps_ret (pe_and (pe_callB call_isiV (by rfl) (W.free 0) (by decide +kernel) (pa_cons (pv 0) (pa_cons (pe_bltn (v := .ty "str") (u := .type "str") rfl (W.free 11) (by decide +kernel) rfl) pa_nil))) (pe_one (pe_cmpR op_notIn_sign pe_str (pv 0) (by rfl)))))), ?_⟩
    obtain ⟨x, d, rfl, hd, hq⟩ := h
    clear tk po bo
    walk_at "x"
    simp only [rIsaV]
    walk_at "x"
    refine ⟨by decide, _, IsaV.of hd, ?_⟩
    cases hd with
    | str z =>
      refine iteT ?_
      refine ⟨10, nl_lit, z, rfl, ?_⟩
      exact hq
    | _ => exact iteF hq
theorem o_write_diary (W : Wd fa fn K mg) : OkF P w K mg base d_write_diary 4 ["entries"] (spWriteDiary K) := by
  have o_is_text := (o_is_text (P := P) (w := w) (base := base) W).mono (show 1 ≤ 3 by decide)
  have o_is_word := (o_is_word (P := P) (w := w) (base := base) W).mono (show 1 ≤ 3 by decide)
  have o_write_data := (o_write_data (P := P) (w := w) (base := base) W).mono (show 3 ≤ 3 by decide)
  obtain ⟨fd_is_text, F_is_text, b_is_text, k_is_text⟩ := o_is_text.ex; obtain ⟨fd_is_word, F_is_word, b_is_word, k_is_word⟩ := o_is_word.ex; obtain ⟨fd_write_data, F_write_data, b_write_data, k_write_data⟩ := o_write_data.ex
  refine okfN true W (d := d_write_diary) 17 sc_write_diary rfl rfl (fun _ _ _ _ _ _ us hl => match us, hl with | [_], _ => rfl) ?len (fun cdv A outer s H vs Q E hr nd hu tk bo h => ?body)
  case len =>
    rintro vs H Q E ⟨_, rfl, _⟩
    rfl
  case body =>
    have po := bo.po; refine ⟨_, (pss_cons (ps_if (pt_not (pt_val (pe_callB call_isiV (by rfl) (W.free 0) (by decide +kernel) (pa_cons (pv 0) (pa_cons (pe_bltn (v := .ty "list") (u := .type "list") rfl (W.free 5) (by decide +kernel) rfl) pa_nil))))) (pss_one (ps_raise rfl tk (W.pmk 18 19 rfl pe_str))) pss_nil)
    (pss_cons (ps_set (i := 1) nd rfl (by first | exact Or.inl rfl | exact Or.inr rfl) (pe_lst pa_nil))
    (pss_cons (ps_for po rfl (pi_list (pv 0)) (pg_name (i := 2) nd rfl (by first | exact Or.inl rfl | exact Or.inr rfl))
      (pss_cons (ps_if (PW.pt (pw_or (pt_not (pt_val (pe_callB call_isiV (by rfl) (W.free 0) (by decide +kernel) (pa_cons (pv 2) (pa_cons (pe_bltn (v := .ty "tuple") (u := .type "tuple") rfl (W.free 4) (by decide +kernel) rfl) pa_nil))))) (pw_or (pt_cmpR op_ne (pe_callB call_len (by rfl) (W.free 3) (by decide +kernel) (pa_cons (pv 2) pa_nil)) pe_int (nomark _)) (pw_or1 (pt_not (pt_val (by exact (pe_callS F_is_text (hr.mono (by first | decide | omega)) rfl (W.glo 33) k_is_text b_is_text (fun σ => passAt tk σ) (by exact (pa_cons (pe_ix ix_seq (pv 2) pe_int (fun _ _ => rfl)) pa_nil)))))))))) (pss_one (ps_raise rfl tk (W.pmk 18 19 rfl pe_str))) pss_nil)
    (pss_cons (ps_set (i := 3) nd rfl (by first | exact Or.inl rfl | exact Or.inr rfl) (pe_ix ix_seq (pv 2) pe_int (fun _ _ => rfl)))
    (pss_cons (ps_if (PW.pt (pw_or (pt_not (pt_val (pe_callB (call_isR W.rep) (by rfl) (W.free 0) (by decide +kernel) (pa_cons (pv 3) (pa_cons (C8.pe_gc rfl (W.refV 32)) pa_nil))))) (pw_or (pt_not (pt_val (by exact (pe_callS F_is_word (hr.mono (by first | decide | omega)) rfl (W.glo 17) k_is_word b_is_word (fun σ => passAt tk σ) (by exact (pa_cons (pe_fld (pv 3) rfl) pa_nil)))))) (pw_or1 (pt_not (pt_val (by exact (pe_callS F_is_text (hr.mono (by first | decide | omega)) rfl (W.glo 33) k_is_text b_is_text (fun σ => passAt tk σ) (by exact (pa_cons (pe_fld (pv 3) rfl) pa_nil)))))))))) (pss_one (ps_raise rfl tk (W.pmk 18 19 rfl pe_str))) pss_nil)
    (pss_cons (ps_if (pt_not (pt_val (pe_callB call_isiV (by rfl) (W.free 0) (by decide +kernel) (pa_cons (pe_fld (pv 3) rfl) (pa_cons (pe_bltn (v := .ty "tuple") (u := .type "tuple") rfl (W.free 4) (by decide +kernel) rfl) pa_nil))))) (pss_one (ps_raise rfl tk (W.pmk 18 19 rfl pe_str))) pss_nil)
    (pss_cons (ps_set (i := 4) nd rfl (by first | exact Or.inl rfl | exact Or.inr rfl) (pe_lst (pa_cons (pe_op op_add_str pe_str (pe_ix ix_seq (pv 2) pe_int (fun _ _ => rfl))) (pa_cons (pe_op op_add_str (pe_op op_add_str (pe_op op_add_str pe_str (pe_fld (pv 3) rfl)) pe_str) (pe_fld (pv 3) rfl)) (pa_cons (pe_op op_add_str pe_str (by exact (pe_callS F_write_data (hr.mono (by first | decide | omega)) rfl (W.glo 34) k_write_data b_write_data (fun σ => passAt tk σ) (by exact (pa_cons (pe_fld (pv 3) rfl) pa_nil))))) pa_nil)))))
    (pss_one (ps_expr (pe_bm PySem.F.plainAttrs_list PySem.F.slot_list_extend PySem.F.type_list_extend mt_extend (pv 1) (pa_cons (pe_lc (own := [("line", 5)]) (g := (gName 5)) (tt := tYes) rfl nd (pi_list (pv 4)) (blkOk_by (own := [("line", 5)]) (N := ["entries", "found", "entry", "reply", "lines", "line"]) (sc := defScope s_write_diary) (by decide +kernel)) (fun _ _ _ _ _ => (pg_name (i := 5) nd rfl (by first | exact Or.inl rfl | exact Or.inr rfl))) (fun _ _ _ _ _ => pts_nil) (fun _ _ _ _ _ => (pe_op op_add_str (pv 5) pe_str))) pa_nil))))))))))
    (pss_one (ps_ret (pe_bm PySem.F.plainAttrs_str PySem.F.slot_str_join PySem.F.type_str_join mt_join pe_str (pa_cons (pv 1) pa_nil))))))), ?_⟩
    obtain ⟨x, rfl, hq⟩ := h
    clear tk po bo
    walk_at "x"
    simp only [rIsaV]
    walk_at "x"
    have szl := sizeLine_eq
    have cl := W.cls (x := "Reply") 59
    have n1 := W.noat (x := "Reply") (f := "kind") 55
    have n2 := W.noat (x := "Reply") (f := "text") 56
    have n3 := W.noat (x := "Reply") (f := "data") 57
    rcases hq with ⟨h1, bad⟩ | ⟨a, xs, es, rfl, hs, hl, hev, hsm, hle, hq⟩
    · exact ⟨by decide, _, h1, iteT (bad.x (Same.refl _))⟩
    refine ⟨by decide, true, .inl ⟨xs, hs, rfl⟩, iteF ⟨by decide, fun p hp => ?_⟩⟩
    have keepA : ∀ {H' : Hp}, Same H H' → SqL K H' a xs := fun s => s.seq hs
    refine tFor_of (walk_list (K := K) (a := a) (xs := xs)) (H1 := upd H p (.lst [])) ?_ (wdInv K H a es p) ?_ ?_ ?_ ?_
    · intro R hR
      simp only [iList]
      walk_at "x"
      exact ⟨⟨_, keepA (Same.new hp)⟩, hR⟩
    · exact ⟨[], none, none, none, none, rfl, Same.new hp, upd_same, hp, by simp, by simp, by rw [List.drop_zero]; cases outAll es <;> rfl⟩
    · rintro i σ H' hi ⟨fs, y2, y3, y4, y5, rfl, sm, _⟩
      exact keepA sm
    · rintro i v σ H1 H2 hi ⟨fs, y2, y3, y4, y5, rfl, sm, hf, bp, f1, f2, f3⟩ ⟨rfl, hv⟩
      obtain ⟨e, he, ev⟩ := hev i v hv
      have ev := ev.same sm
      rw [drop_at he] at f3
      simp only [outAll] at f3
      have small := hsm e (List.mem_of_getElem? he)
      have none_ : outE e = none → BadS K E H2 := fun h => by
        rw [f3, h] at hq
        exact BadS.same hq sm
      walk_at "x"
      simp only [rIsaV]
      walk_at "x"
      cases e with
      | other => exact ⟨by decide, _, ev, iteT ((none_ rfl).x (Same.refl _))⟩
      | tup n =>
        obtain ⟨b, ys, rfl, q1, q2, q3⟩ := ev
        refine ⟨by decide, true, .inr ⟨ys, q1, rfl⟩, iteF ⟨_, .inr ⟨ys, q1, rfl⟩, ?_⟩⟩
        rw [if_pos (by simp; omega)]
        exact (none_ rfl).x (Same.refl _)
      | pair x r =>
        obtain ⟨b, u, y, rfl, q1, q2, q3⟩ := ev
        refine ⟨by decide, true, .inr ⟨_, q1, rfl⟩, iteF ⟨2, .inr ⟨_, q1, rfl⟩, ?_⟩⟩
        rw [if_neg (by simp)]
        simp only [rIx]
        walk_at "x"
        refine .inr ⟨[u, y], q1, u, atI_nat (j := 0) rfl, u, x, rfl, q2, ?_⟩
        refine ⟨_, rfl, ?_⟩
        cases hx : textD x with
        | false =>
          refine iteT ((none_ ?_).x (Same.refl _))
          cases r with
          | data d => rfl
          | rep k t d => simp [outE, hx]
        | true =>
          refine iteF (.inr ⟨[u, y], q1, y, atI_nat (j := 1) rfl, ?_⟩)
          cases r with
          | data d => exact ⟨y, rfl, _, IsRep.of q3, _, rfl, iteT ((none_ rfl).x (Same.refl _))⟩
          | rep k t d =>
            obtain ⟨ra, rfl, dx, kv, tv, dv, g1, g2, g3, g4⟩ := q3
            obtain ⟨m1, m2, m3, m4⟩ := small
            refine ⟨.ref ra, rfl, _, .inr (.inr ⟨_, _, g1, rfl⟩), _, rfl, iteF ⟨ra, rfl, _, _, _, g1, cl, n1, _, repF_k, kv, k, rfl, g2, fun z e => by subst e; cases g2; have := m2.2.2.2 z rfl; omega, fun H3 s3 => ⟨_, rfl, ?_⟩⟩⟩
            have no3 : outE (.pair x (.rep k t d)) = none → BadS K E H3 := fun h => BadS.same (none_ h) s3
            cases hk : wordD k with
            | false => exact iteT ((no3 (by simp [outE, hx, hk])).x (Same.refl _))
            | true =>
              refine iteF ⟨ra, rfl, _, _, _, s3 _ _ g1, cl, n2, _, repF_t, tv, t, rfl, Dp.sm s3 _ _ g3, _, rfl, ?_⟩
              cases ht : textD t with
              | false => exact iteT ((no3 (by simp [outE, hx, hk, ht])).x (Same.refl _))
              | true =>
                obtain ⟨zl, rfl⟩ : ∃ z, x = .str z := by cases x <;> first | exact ⟨_, rfl⟩ | cases hx
                obtain ⟨zk, rfl⟩ : ∃ z, k = .str z := by cases k <;> first | exact ⟨_, rfl⟩ | cases hk
                obtain ⟨zt, rfl⟩ : ∃ z, t = .str z := by cases t <;> first | exact ⟨_, rfl⟩ | cases ht
                cases q2
                cases g2
                cases g3
                have lzl := m1.2.2.2 zl rfl
                have lzk := m2.2.2.2 zk rfl
                have lzt := m3.2.2.2 zt rfl
                have g4' := Dp.sm s3 _ _ g4
                refine iteF ⟨ra, rfl, _, _, _, s3 _ _ g1, cl, n3, _, repF_d, by decide, _, IsaV.of g4', ?_⟩
                cases hd : isa d "tuple" with
                | false => exact iteT ((no3 (by simp [outE, hx, hk, ht, hd])).x (Same.refl _))
                | true =>
                  have l1 : (Str.ofString "> ").length = 2 := by decide +kernel
                  have l2 : (Str.ofString "= ").length = 2 := by decide +kernel
                  have l3 : (Str.ofString " ").length = 1 := by decide +kernel
                  have l4 : (Str.ofString "# ").length = 2 := by decide +kernel
                  have lapp : ∀ a b : Str, (a ++ b).length = a.length + b.length := fun a b => by
                    show (TL.tl (a ++ b)).length = _
                    rw [TL.tl_append, List.length_append]
                    rfl
                  refine iteF (.inr ⟨_, (Tx.of s3).sqt q1, _, atI_nat (j := 0) rfl, zl, rfl, by omega, ra, rfl, _, _, _, s3 _ _ g1, cl, n1, _, repF_k, zk, rfl, by omega, by rw [lapp]; omega, ra, rfl, _, _, _, s3 _ _ g1, cl, n2, _, repF_t, zt, rfl, by rw [lapp, lapp]; omega, ra, rfl, _, _, _, s3 _ _ g1, cl, n3, _, repF_d, ?_⟩)
                  refine ⟨dv, d, rfl, g4', m4.1, by have := m4.2.1; omega, fun y hy => by have := m4.2.2.1 y hy; omega, ?_⟩
                  cases hw : wD 1 d with
                  | none =>
                    intro H4 s4
                    exact (no3 (by simp [outE, hx, hk, ht, hd, hw])).x s4
                  | some wt =>
                    intro H4 s4
                    have lw := m4.2.2.1 wt hw
                    refine ⟨S wt, rfl, by rw [len_S]; omega, by decide, fun q hq4 => ?_⟩
                    have e1 : Str.ofString "> " ++ zl = S ([62, 32] ++ zl.cps.toList) := by rw [← S_app, S_tl]; congr 1
                    have e2 : Str.ofString "= " ++ zk ++ Str.ofString " " ++ zt = S ([61, 32] ++ zk.cps.toList ++ [32] ++ zt.cps.toList) := by rw [← S_app, ← S_app, ← S_app, S_tl, S_tl]; congr 1
                    have e3 : Str.ofString "# " ++ S wt = S ([35, 32] ++ wt) := by rw [← S_app]; congr 1
                    rw [e1, e2, e3]
                    generalize hr1 : [62, 32] ++ zl.cps.toList = r1
                    generalize hr2 : [61, 32] ++ zk.cps.toList ++ [32] ++ zt.cps.toList = r2
                    generalize hr3 : [35, 32] ++ wt = r3
                    have el : ∀ z : Str, z.length = z.cps.toList.length := fun z => rfl
                    have k1 : r1.length ≤ 100002 := by rw [← hr1]; have := el zl; simp only [List.length_append, List.length_cons, List.length_nil]; omega
                    have k2 : r2.length ≤ 200003 := by rw [← hr2]; have := el zk; have := el zt; simp only [List.length_append, List.length_cons, List.length_nil]; omega
                    have k3 : r3.length ≤ 100002 := by rw [← hr3]; simp only [List.length_append, List.length_cons, List.length_nil]; omega
                    have f4 : H4 p = some (.lst (fs.map fun f => V.str (S f))) := s4 _ _ (s3 _ _ hf)
                    have npq : p ≠ q := ne_of_none f4 hq4
                    refine ⟨tyLst (by rw [upd_ne npq]; exact f4), ?_⟩
                    refine tLc_of (walk_list (K := K) (a := q) (xs := [r1, r2, r3].map fun r => V.str (S r))) (H1 := upd H4 q (.lst ([r1, r2, r3].map fun r => V.str (S r)))) ?_ (fun D i H' => H' = upd (upd H4 q (.lst ([r1, r2, r3].map fun r => V.str (S r)))) D (.lst (([r1, r2, r3].take i).map fun r => V.str (S (r ++ [10])))) ∧ D ≠ q ∧ H4 D = none) ?_ ?_ ?_ ?_
                    · intro R hR
                      simp only [iList]
                      walk_at "x"
                      exact ⟨⟨_, SqL.of upd_same⟩, hR⟩
                    · intro D hD
                      have n : D ≠ q := fun e => by rw [e, upd_same] at hD; cases hD
                      rw [upd_ne n] at hD
                      exact ⟨rfl, n, hD⟩
                    · rintro D j H' hj ⟨rfl, n, _⟩
                      exact SqL.of (by rw [upd_ne n.symm, upd_same])
                    · rintro D j v H5 H6 hj ⟨rfl, n, hD⟩ ⟨rfl, hv⟩
                      have hj' : j < [r1, r2, r3].length := by simpa using hj
                      have ej : [r1, r2, r3][j]? = some [r1, r2, r3][j] := List.getElem?_eq_getElem hj'
                      rw [List.getElem?_map, ej] at hv
                      cases hv
                      have lr : [r1, r2, r3][j].length ≤ 200003 := by
                        have : ∀ r ∈ [r1, r2, r3], r.length ≤ 200003 := by
                          intro r hr
                          simp at hr
                          rcases hr with rfl | rfl | rfl <;> omega
                        exact this _ (List.getElem_mem hj')
                      simp only [gName, tYes]
                      walk_at "x"
                      refine ⟨by rw [len_S, nl_lit, len_S]; simp; omega, _, upd_same, by simp; omega, ?_⟩
                      rw [upd_upd]
                      refine ⟨?_, n, hD⟩
                      rw [List.take_succ, ej, nl_lit, S_app]
                      simp only [Option.toList_some, List.map_append, List.map_cons, List.map_nil]
                    · rintro D H' ⟨rfl, n, hD⟩
                      have npD : p ≠ D := ne_of_none f4 hD
                      have f5 : (upd (upd H4 q (.lst ([r1, r2, r3].map fun r => V.str (S r)))) D (.lst (([r1, r2, r3].take ([r1, r2, r3].map fun r => V.str (S r)).length).map fun r => V.str (S (r ++ [10]))))) p = some (.lst (fs.map fun f => V.str (S f))) := by
                        rw [upd_ne npD, upd_ne npq]
                        exact f4
                      refine ⟨p, D, _, _, rfl, rfl, f5, upd_same, by simp; omega, ?_⟩
                      refine ⟨fs ++ [r1 ++ [10], r2 ++ [10], r3 ++ [10]], _, _, _, _, rfl, ?_, ?_, bp, by simp; omega, ?_, ?_⟩
                      · refine Same.mut (Same.mut (Same.mut (Same.trans sm (Same.trans s3 s4)) ?_) ?_) bp
                        · exact (Same.trans sm (Same.trans s3 s4)).free hq4
                        · exact (Same.trans sm (Same.trans s3 s4)).free hD
                      · rw [upd_same]
                        simp
                      · rw [List.flatten_append, List.length_append]
                        simp only [List.flatten_cons, List.flatten_nil, List.length_append, List.length_cons, List.length_nil]
                        omega
                      · rw [f3]
                        have eo : outE (.pair (.str zl) (.rep (.str zk) (.str zt) d)) = some (r1 ++ [10] ++ (r2 ++ [10]) ++ (r3 ++ [10])) := by
                          simp only [outE, hx, hk, ht, hd, hw, Bool.and_true, if_true, Option.map_some, rowsE, strD, ← hr1, ← hr2, ← hr3]
                        rw [eo]
                        simp only [Option.bind_some]
                        cases outAll (es.drop (i + 1)) <;> simp
    · rintro σ H' ⟨fs, y2, y3, y4, y5, rfl, sm, hf, bp, f1, f2, f3⟩
      rw [hl, List.drop_length] at f3
      simp only [outAll, Option.map_some, List.append_nil] at f3
      rw [f3] at hq
      walk_at "x"
      refine ⟨rfl, fs.map S, .inl (SqL.of (by rw [List.map_map]; exact hf)), ?_, ?_⟩
      · rw [lens_S fs, show (Str.ofString "").length = 0 by decide +kernel]
        omega
      · rw [join_S]
        exact hq _ sm
end
end WW

set_option maxHeartbeats 4000000
namespace WW
open PySem PySem.Spec PyProof.Rows L2
local macro_rules | `(tactic| walk_at "x") => `(tactic| simp only [tSeq, tNext, tAsg, gName, tRet, tRetN, tIfS, tOp, tUn, rI, rI0, rU, tTest, tB, tAnd, tOr, tNot, tAndV, tOrV, tNotV, tIf, tCons, tNil, tTup, tLst, tCall, tCallS, tMeth, tMake, tFld, sFld, tBM, tBM0, tCB, tSl, tPart, tNoPart, tDrop, tPar, tPar3, tAug, ipI, gTup, gCons, gNil, gSub, rSetL, rAppend, rPop, rIxL, rIxS, rIxT, rEq, rNe, tChain, tNever, tThen, tVar, tC, L2.start, List.map_cons, List.map_nil, List.length_cons, List.length_nil, List.replicate_succ, List.replicate_zero, List.append_nil, List.nil_append, List.cons_append, Nat.reduceAdd, Nat.reduceSub, Nat.add_zero, Nat.zero_add, Nat.sub_zero, Nat.sub_self,
  List.getElem?_cons_zero, List.getElem?_cons_succ, Option.some.injEq, exists_eq_left', exists_eq_left, exists_eq', exists_eq, exists_and_left, List.set_cons_zero, List.set_cons_succ, V.int.injEq, V.bl.injEq, V.str.injEq, V.ref.injEq, V.ty.injEq, List.cons.injEq, and_true, true_and, and_assoc, if_true, if_false, Bool.false_eq_true, reduceCtorEq, false_and, and_false, exists_false, false_or, or_false, Bool.not_true, Bool.not_false, decide_eq_true_eq, ite_true, ite_false, WE, cxOf_K, cxOf_mg, rSlS, scal, wipe, mem_low, mem_dig, mem_brk, mem_brk4, sgn_inj, Bool.decide_eq_true])

/-! ### rows, plain -/
def markL (k : Nat) : List Nat := if k = 0 then [62, 32] else if k = 1 then [61, 32] else [35, 32]
/-- kind and text of a row -/
def kindL (l : List Nat) : Option (List Nat × List Nat) := (TL.par [32] [] l).bind fun q => if wordL q.1 then some q else none
def tupleD (d : PyData) : Option PyData := if isa d "tuple" then some d else none
def partL (k : Nat) (l : List Nat) : Option PyData := if l.take 2 = markL k then
    (if k = 0 then some (.str (S (l.drop 2))) else if k = 1 then (kindL (l.drop 2)).map fun q => .tuple [.str (S q.1), .str (S q.2)] else (readD (.str (S (l.drop 2)))).bind tupleD)
  else none
def spReadPart (K : PySem.W.Frag) : Sp := fun vs H Q E => ∃ (z : Str) (k : Nat), vs = [.str z, .int k] ∧ k < 3 ∧ z.length ≤ 50000 ∧ AnsD K H Q E (partL k z.cps.toList)
theorem par_len {b acc l p q : List Nat} (h : TL.par b acc l = some (p, q)) : p.length ≤ acc.length + l.length ∧ q.length ≤ l.length := by
  induction l generalizing acc with
  | nil => cases h
  | cons c l ih =>
    unfold TL.par at h
    split at h
    · cases h
      rw [List.length_drop]
      omega
    · have := ih h
      simp only [List.length_append, List.length_cons, List.length_nil] at this ⊢
      omega
theorem empty_lit : Str.ofString "" = S [] := by decide +kernel
theorem sp_lit : Str.ofString " " = S [32] := by decide +kernel
theorem m0_lit : Str.ofString "> " = S [62, 32] := by decide +kernel
theorem m1_lit : Str.ofString "= " = S [61, 32] := by decide +kernel
theorem m2_lit : Str.ofString "# " = S [35, 32] := by decide +kernel
theorem iteT' {c : Prop} [Decidable c] {a b : Prop} (h : c) (q : a) : if c then a else b := by rw [if_pos h]; exact q
theorem iteF' {c : Prop} [Decidable c] {a b : Prop} (h : ¬ c) (q : b) : if c then a else b := by rw [if_neg h]; exact q
section
variable {P : Program} {w : World} {K : PySem.W.Frag} {mg : Str → Option Value} {base : Heap}
theorem o_read_part (W : Wd fa fn K mg) : OkF P w K mg base d_read_part 5 ["line", "k"] (spReadPart K) := by
  have o_is_word := (o_is_word (P := P) (w := w) (base := base) W).mono (show 1 ≤ 4 by decide)
  have o_read_data := (o_read_data (P := P) (w := w) (base := base) W).mono (show 4 ≤ 4 by decide)
  obtain ⟨fd_is_word, F_is_word, b_is_word, k_is_word⟩ := o_is_word.ex; obtain ⟨fd_read_data, F_read_data, b_read_data, k_read_data⟩ := o_read_data.ex
  refine okfN true W (d := d_read_part) 18 sc_read_part rfl rfl (fun _ _ _ _ _ _ us hl => match us, hl with | [_, _], _ => rfl) ?len (fun cdv A outer s H vs Q E hr nd hu tk bo h => ?body)
  case len =>
    rintro vs H Q E ⟨_, _, rfl, _⟩
    rfl
  case body =>
    have po := bo.po; refine ⟨_, (pss_cons (ps_if (pt_cmpR op_ne (pe_slice sl_str (pv 0) po_none (po_some pe_int)) (pe_ix ix_tup (C8.pe_gc rfl (W.refV 35)) (pv 1) (fun _ _ => rfl)) (nomark _)) (pss_one (ps_raise rfl tk (W.pmk 18 19 rfl pe_str))) pss_nil)
    (pss_cons (ps_set (i := 2) nd rfl (by first | exact Or.inl rfl | exact Or.inr rfl) (pe_slice sl_str (pv 0) (po_some pe_int) po_none))
    (pss_cons (ps_if (pt_cmpR op_eq (pv 1) pe_int (nomark _)) (pss_one (ps_ret (pv 2))) pss_nil)
    (pss_cons (ps_if (pt_cmpR op_eq (pv 1) pe_int (nomark _)) (pss_cons (ps_asg (pe_bm PySem.F.plainAttrs_str PySem.F.slot_str_partition PySem.F.type_str_partition mt_partition (pv 2) (pa_cons pe_str pa_nil)) (pg_tup rfl (pgs_cons (pg_name (i := 4) nd rfl (by first | exact Or.inl rfl | exact Or.inr rfl)) (pgs_cons (pg_name (i := 5) nd rfl (by first | exact Or.inl rfl | exact Or.inr rfl)) (pgs_cons (pg_name (i := 6) nd rfl (by first | exact Or.inl rfl | exact Or.inr rfl)) pgs_nil)))))
    (pss_cons (ps_if (PW.pt (pw_or (pt_cmpR op_eq (pv 5) pe_str (nomark _)) (pw_or1 (pt_not (pt_val (by exact (pe_callS F_is_word (hr.mono (by first | decide | omega)) rfl (W.glo 17) k_is_word b_is_word (fun σ => passAt tk σ) (by exact (pa_cons (pv 4) pa_nil))))))))) (pss_one (ps_raise rfl tk (W.pmk 18 19 rfl pe_str))) pss_nil)
    (pss_one (ps_ret (pe_tup (pa_cons (pv 4) (pa_cons (pv 6) pa_nil))))))) pss_nil)
    (pss_cons (ps_set (i := 3) nd rfl (by first | exact Or.inl rfl | exact Or.inr rfl) (by exact (pe_callS F_read_data (hr.mono (by first | decide | omega)) rfl (W.glo 36) k_read_data b_read_data (fun σ => passAt tk σ) (by exact (pa_cons (pv 2) pa_nil)))))
    (pss_cons (ps_if (pt_not (pt_val (pe_callB call_isiV (by rfl) (W.free 0) (by decide +kernel) (pa_cons (pv 3) (pa_cons (pe_bltn (v := .ty "tuple") (u := .type "tuple") rfl (W.free 4) (by decide +kernel) rfl) pa_nil))))) (pss_one (ps_raise rfl tk (W.pmk 18 19 rfl pe_str))) pss_nil)
    (pss_one (ps_ret (pv 3))))))))), ?_⟩
    obtain ⟨z, k, rfl, hk, hz, ha⟩ := h
    clear tk po bo
    have szl := sizeLine_eq
    have el : z.length = z.cps.toList.length := rfl
    walk_at "x"
    have e1 := cut_to z 2
    have e2 := cut_from z 2
    rw [show ((2 : Nat) : Int) = 2 from rfl] at e1 e2
    rw [e1, e2]
    generalize hr : z.cps.toList.drop 2 = rest
    have lr : rest.length ≤ 50000 := by rw [← hr, List.length_drop]; omega
    have hm : ([V.str "> ", V.str "= ", V.str "# "] : List V)[k]? = some (.str (S (markL k))) := by
      match k, hk with
      | 0, _ => rw [show markL 0 = [62, 32] from rfl, ← m0_lit]; rfl
      | 1, _ => rw [show markL 1 = [61, 32] from rfl, ← m1_lit]; rfl
      | 2, _ => rw [show markL 2 = [35, 32] from rfl, ← m2_lit]; rfl
    refine ⟨by omega, _, W.marks H, _, atI_nat hm, rfl, ?_⟩
    unfold partL at ha
    by_cases h1 : z.cps.toList.take 2 = markL k
    · rw [if_pos h1, hr] at ha
      refine iteF' (by rw [h1]; simp) ⟨by omega, ?_⟩
      by_cases k0 : k = 0
      · subst k0
        rw [if_pos rfl] at ha
        exact iteT' (by rfl) (ha _ H (Same.refl _) (.str _) rfl)
      · rw [if_neg k0] at ha
        rw [if_neg (by omega)]
        by_cases k1 : k = 1
        · subst k1
          rw [if_pos rfl] at ha
          refine iteT' (by rfl) ⟨rfl, by decide +kernel, by rw [len_S]; omega, fun p hp => ⟨_, SqT.of upd_same, rfl, _, _, rfl, _, _, rfl, _, _, rfl, rfl, rfl, ?_⟩⟩
          simp only [sp_lit, empty_lit]
          unfold kindL at ha
          cases hpar : TL.par [32] [] rest with
          | none =>
            have := SX.partition_none (a := rest) (b := [32]) (by simp) hpar
            rw [show Txt.partition (S rest) (S [32]) = _ from this]
            rw [hpar] at ha
            refine iteT' rfl (ha _ (Same.new hp))
          | some q =>
            obtain ⟨a, b⟩ := q
            have := SX.partition_some (a := rest) (b := [32]) (by simp) hpar
            rw [show Txt.partition (S rest) (S [32]) = _ from this]
            rw [hpar] at ha
            have la := par_len hpar
            refine iteF' (by simp only [V.str.injEq]; exact fun e => by have := S_inj.mp (show S [32] = S [] from e); cases this) ?_
            refine ⟨_, .str (S a), rfl, .str _, fun y e => by cases e; show a.length ≤ 1000000; simp at la; omega, fun H1 s1 => ⟨_, rfl, ?_⟩⟩
            simp only [Option.bind_some] at ha
            cases hw : wordL a with
            | false =>
              rw [hw] at ha
              refine iteT' (by simp [wordD, hw, tl_S]) (ha _ (Same.trans (Same.new hp) s1))
            | true =>
              rw [hw] at ha
              refine iteF' (by simp [wordD, hw, tl_S]) ⟨by decide, fun q hq => ?_⟩
              refine ha _ _ (Same.trans (Same.trans (Same.new hp) s1) (Same.new hq)) (.tup (SqT.of upd_same) (.cons (.str _) (.cons (.str _) .nil))) rfl
        · rw [if_neg k1] at ha
          rw [if_neg (by omega)]
          refine ⟨.str (S rest), .str (S rest), rfl, .str _, fun y e => by cases e; rw [len_S]; exact lr, ?_⟩
          cases hd : readD (.str (S rest)) with
          | none =>
            rw [hd] at ha
            exact fun H1 s1 => ha H1 s1
          | some d =>
            rw [hd] at ha
            intro v H1 s1 hv hi
            refine ⟨v, "tuple", rfl, by decide, _, IsaV.of hv, _, rfl, ?_⟩
            simp only [Option.bind_some, tupleD] at ha
            cases ht : isa d "tuple" with
            | false =>
              rw [ht] at ha
              exact iteT (ha H1 s1)
            | true =>
              rw [ht] at ha
              exact iteF (ha v H1 s1 hv hi)
    · rw [if_neg h1] at ha
      exact iteT' (by simp only [V.str.injEq, S_inj]; simpa using h1) (ha H (Same.refl _))
end
end WW

set_option maxHeartbeats 4000000
namespace WW
open PySem PySem.Spec PyProof.Rows L2
local macro_rules | `(tactic| walk_at "x") => `(tactic| simp only [tSeq, tNext, tAsg, gName, tRet, tRetN, tIfS, tOp, tUn, rI, rI0, rU, tTest, tB, tAnd, tOr, tNot, tAndV, tOrV, tNotV, tIf, tCons, tNil, tTup, tLst, tCall, tCallS, tMeth, tMake, tFld, sFld, tBM, tBM0, tCB, tSl, tPart, tNoPart, tDrop, tPar, tPar3, tAug, ipI, gTup, gCons, gNil, gSub, rSetL, rAppend, rPop, rIxL, rIxS, rIxT, rEq, rNe, tChain, tNever, tThen, tVar, tC, L2.start, List.map_cons, List.map_nil, List.length_cons, List.length_nil, List.replicate_succ, List.replicate_zero, List.append_nil, List.nil_append, List.cons_append, Nat.reduceAdd, Nat.reduceSub, Nat.add_zero, Nat.zero_add, Nat.sub_zero, Nat.sub_self,
  List.getElem?_cons_zero, List.getElem?_cons_succ, Option.some.injEq, exists_eq_left', exists_eq_left, exists_eq', exists_eq, exists_and_left, List.set_cons_zero, List.set_cons_succ, V.int.injEq, V.bl.injEq, V.str.injEq, V.ref.injEq, V.ty.injEq, List.cons.injEq, and_true, true_and, and_assoc, if_true, if_false, Bool.false_eq_true, reduceCtorEq, false_and, and_false, exists_false, false_or, or_false, Bool.not_true, Bool.not_false, decide_eq_true_eq, ite_true, ite_false, WE, cxOf_K, cxOf_mg, rSlS, scal, wipe, mem_low, mem_dig, mem_brk, mem_brk4, sgn_inj, Bool.decide_eq_true])

/-! ### diaries, plain -/
def rowsL (l : List Nat) : List (List Nat) := TL.spl [10] 0 [] l
def parts : Nat → List (List Nat) → Sum Nat (List PyData)
  | _, [] => .inr []
  | n, l :: ls => match partL (n % 3) l with
    | none => .inl (n + 1)
    | some d => match parts (n + 1) ls with
      | .inl m => .inl m
      | .inr ds => .inr (d :: ds)
def diaryL (l : List Nat) : Sum Nat (List PyData) := match parts 0 (rowsL l).dropLast with
  | .inl n => .inl n
  | .inr ds => if (rowsL l).getLast? = some [] ∧ ds.length % 3 = 0 then .inr ds else .inl (ds.length + 1)
def rowS (n : Nat) : Str := Str.ofString "row " ++ Str.ofString (toString ((n : Nat) : Int))
/-- an entry that was read -/
def EntG (K : PySem.W.Frag) (H : Hp) (v : V) (x kt d : PyData) : Prop := ∃ a u r k t, v = .ref a ∧ SqT K H a [u, .ref r] ∧ Dp K H u x ∧ kt = .tuple [k, t] ∧ RepV K H r k t d ∧ imm x = true ∧ imm kt = true ∧ imm d = true
def spReadDiary (K : PySem.W.Frag) : Sp := fun vs H Q E => ∃ x d, vs = [x] ∧ Dp K H x d ∧ (∀ z, x = .str z → z.length ≤ 20000) ∧ (match d with
  | .str z => (match diaryL z.cps.toList with
    | .inl n => BadT K E H (rowS n)
    | .inr ds => ∀ p vs H', Same H H' → H p = none → H' p = some (.lst vs) → 3 * vs.length = ds.length → (∀ (j : Nat) v, vs[j]? = some v → ∃ x y d, ds[3 * j]? = some x ∧ ds[3 * j + 1]? = some y ∧ ds[3 * j + 2]? = some d ∧ EntG K H' v x y d) → (∀ d ∈ ds, imm d = true) → Q (.ref p) H')
  | _ => BadT K E H (Str.ofString "no text"))
theorem spl_lens (b : List Nat) : ∀ (k : Nat) (acc l : List Nat), (∀ p ∈ TL.spl b k acc l, p.length ≤ acc.length + l.length) ∧ (TL.spl b k acc l).length ≤ l.length + 1
  | k, acc, [] => by rw [TL.spl_nil]; simp
  | 0, acc, c :: l => by
    unfold TL.spl
    split
    · obtain ⟨h1, h2⟩ := spl_lens b (b.length - 1) [] l
      refine ⟨fun p hp => ?_, by rw [List.length_cons, List.length_cons]; omega⟩
      rcases List.mem_cons.mp hp with rfl | hp
      · omega
      · have := h1 p hp
        simp only [List.length_nil, List.length_cons] at this ⊢
        omega
    · obtain ⟨h1, h2⟩ := spl_lens b 0 (acc ++ [c]) l
      refine ⟨fun p hp => ?_, by rw [List.length_cons]; omega⟩
      have := h1 p hp
      simp only [List.length_append, List.length_nil, List.length_cons] at this ⊢
      omega
  | k + 1, acc, c :: l => by
    unfold TL.spl
    obtain ⟨h1, h2⟩ := spl_lens b k acc l
    refine ⟨fun p hp => ?_, by rw [List.length_cons]; omega⟩
    have := h1 p hp
    simp only [List.length_cons] at this ⊢
    omega
theorem rowsL_ne (l : List Nat) : rowsL l ≠ [] := by
  unfold rowsL
  have : ∀ (k : Nat) (acc l : List Nat), TL.spl [10] k acc l ≠ [] := by
    intro k acc l
    induction l generalizing k acc with
    | nil => rw [TL.spl_nil]; simp
    | cons c l ih =>
      cases k with
      | zero =>
        unfold TL.spl
        split
        · simp
        · exact ih 0 _
      | succ k =>
        unfold TL.spl
        exact ih k acc
  exact this 0 [] l
theorem parts_at : ∀ (ls : List (List Nat)) (n : Nat) {ds : List PyData}, parts n ls = .inr ds → ∀ (j : Nat) d, ds[j]? = some d → ∃ l, partL ((n + j) % 3) l = some d := by
  intro ls
  induction ls with
  | nil =>
    intro n ds h j d hj
    simp only [parts] at h
    cases h
    cases hj
  | cons l ls ih =>
    intro n ds h j d hj
    simp only [parts] at h
    cases hp : partL (n % 3) l with
    | none => rw [hp] at h; cases h
    | some d0 =>
      rw [hp] at h
      simp only at h
      cases hq : parts (n + 1) ls with
      | inl m => rw [hq] at h; cases h
      | inr es =>
        rw [hq] at h
        cases h
        cases j with
        | zero => cases hj; exact ⟨l, hp⟩
        | succ j =>
          obtain ⟨l', h'⟩ := ih (n + 1) hq j d (by simpa using hj)
          exact ⟨l', by rw [show n + (j + 1) = n + 1 + j by omega]; exact h'⟩
theorem partL_1 {l : List Nat} {d : PyData} (h : partL 1 l = some d) : ∃ k t : Str, d = .tuple [.str k, .str t] := by
  unfold partL at h
  split at h
  · rw [if_neg (by decide), if_pos rfl] at h
    obtain ⟨q, _, e⟩ := Option.map_eq_some_iff.mp h
    exact ⟨_, _, e.symm⟩
  · cases h
theorem rowS_ok {n : Nat} (h : n ≤ 100000) : ((n : Nat) : Int).natAbs.log2 < 1920 ∧ (Str.ofString (toString ((n : Nat) : Int))).length ≤ 100002 ∧ ((n : Nat) : Int).natAbs < P43 := by
  refine ⟨?_, ?_, ?_⟩
  · by_cases e : n = 0
    · subst e; decide
    · refine (Nat.log2_lt (by omega)).mpr (Nat.lt_of_le_of_lt (m := 100000) (by omega) ?_)
      exact Nat.lt_of_lt_of_le (show 100000 < 2 ^ 17 by decide) (Nat.pow_le_pow_right (by decide) (by decide))
  · have := PyProof.Rows.len_str_of_int ((n : Nat) : Int)
    omega
  · have e : 2 ^ 17 ≤ P43 := by decide +kernel
    have : (2 : Nat) ^ 17 = 131072 := by decide
    omega
theorem rgC3 (m : Nat) (h : m ≤ 100000) : RgC 0 ((3 * m : Nat) : Int) 3 m := by
  have e : Builtin.Range.rangeSize 0 ((3 * m : Nat) : Int) 3 = m := by
    unfold Builtin.Range.rangeSize
    rw [if_pos (by decide)]
    split <;> omega
  refine ⟨by decide, by decide, ?_, e⟩
  have fits : ∀ x : Int, 0 ≤ x → x ≤ 1000000 → Builtin.Range.rangeFitsLong x = true := by
    intro x h1 h2
    unfold Builtin.Range.rangeFitsLong
    rw [Bool.and_eq_true, decide_eq_true_eq, decide_eq_true_eq]
    omega
  unfold Builtin.Range.small
  rw [e, fits 0 (by omega) (by omega), fits _ (show (0 : Int) ≤ ((3 * m : Nat) : Int) by omega) (by omega), fits 3 (by omega) (by omega), fits _ (show (0 : Int) ≤ (m : Int) by omega) (by omega), if_pos (show (3 : Int) > 0 by decide), fits _ (show (0 : Int) ≤ ((3 * m : Nat) : Int) + (3 - 1) by omega) (by omega)]
  simp
/-- an entry stands, whatever list is written -/
theorem EntG.upd {K : PySem.W.Frag} {H : Hp} {v : V} {x y d : PyData} {D : Addr} {xs ys : List V} (h : EntG K H v x y d) (hD : H D = some (.lst xs)) : EntG K (upd H D (.lst ys)) v x y d := by
  obtain ⟨a, u, r, k, t, rfl, h1, h2, rfl, ⟨dx, kv, tv, dv, g1, g2, g3, g4⟩, i1, i2, i3⟩ := h
  have t0 : Tx H (L2.upd H D (.lst ys)) := Tx.up hD noTup_l
  simp only [imm, imm.immAll, Bool.and_eq_true] at i2
  refine ⟨a, u, r, k, t, rfl, t0.sqt h1, Dp.tx t0 _ _ i1 h2, rfl, ⟨dx, kv, tv, dv, by rw [upd_ne (fun e => by rw [e, hD] at g1; cases g1)]; exact g1, Dp.tx t0 _ _ i2.1 g2, Dp.tx t0 _ _ i2.2.1 g3, Dp.tx t0 _ _ i3 g4⟩, i1, by simp only [imm, imm.immAll, Bool.and_eq_true]; exact i2, i3⟩
theorem EntG.same {K : PySem.W.Frag} {H H' : Hp} {v : V} {x y d : PyData} (h : EntG K H v x y d) (s : Same H H') : EntG K H' v x y d := by
  obtain ⟨a, u, r, k, t, rfl, h1, h2, rfl, h3, i⟩ := h
  exact ⟨a, u, r, k, t, rfl, (Tx.of s).sqt h1, Dp.sm s _ _ h2, rfl, h3.same s, i⟩
theorem dp_two {K : PySem.W.Frag} {H : Hp} {w : V} {d1 d2 : PyData} (h : Dp K H w (.tuple [d1, d2])) : ∃ a u0 u1, w = .ref a ∧ SqT K H a [u0, u1] ∧ Dp K H u0 d1 ∧ Dp K H u1 d2 := by
  cases h with
  | tup t1 t2 =>
    cases t2 with
    | cons tk t3 =>
      cases t3 with
      | cons tt t4 =>
        cases t4
        exact ⟨_, _, _, rfl, t1, tk, tt⟩
/-- the comprehension's state -/
def rcInv (K : PySem.W.Frag) (H0 : Hp) (ds : List PyData) (D : Addr) (j : Nat) (H : Hp) : Prop := ∃ es : List V, Same H0 H ∧ H D = some (.lst es) ∧ es.length = j ∧ H0 D = none ∧ ∀ (i : Nat) v, es[i]? = some v → ∃ x y d, ds[3 * i]? = some x ∧ ds[3 * i + 1]? = some y ∧ ds[3 * i + 2]? = some d ∧ EntG K H v x y d
theorem imm_mem {ds : List PyData} (h : imm.immAll ds = true) {d : PyData} (hd : d ∈ ds) : imm d = true := by
  obtain ⟨i, e⟩ := List.mem_iff_getElem?.mp hd
  exact imm_get h e
/-- the loop's state -/
def rdInv (K : PySem.W.Frag) (H1 : Hp) (z : Str) (L p : Addr) (I : List (List Nat)) (i : Nat) (σ : L2.St) (H : Hp) : Prop := ∃ (ds : List PyData) (vs : List V) (y3 : Option V), σ = [some (.str z), some (.ref L), some (.ref p), y3, none] ∧ Same H1 H ∧ H p = some (.lst vs) ∧ H1 p = none ∧
  DpAll K H vs ds ∧ imm.immAll ds = true ∧ ds.length = i ∧ parts 0 I = (match parts i (I.drop i) with
    | .inl m => .inl m
    | .inr es => .inr (ds ++ es))
section
variable {P : Program} {w : World} {K : PySem.W.Frag} {mg : Str → Option Value} {base : Heap}
theorem o_read_diary (W : Wd fa fn K mg) : OkG P w K mg base d_read_diary 6 ["text"] (spReadDiary K) := by
  have o_read_part := (o_read_part (P := P) (w := w) (base := base) W)
  have o_Reply___init__ := (o_Reply___init__ (P := P) (w := w) (base := base) W)
  obtain ⟨fd_Reply___init__, F_Reply___init__, b_Reply___init__, ⟨d1_Reply___init__, v1_Reply___init__, b1_Reply___init__⟩, ⟨d2_Reply___init__, v2_Reply___init__, b2_Reply___init__⟩⟩ := o_Reply___init__.ex; obtain ⟨fd_read_part, F_read_part, b_read_part, k_read_part⟩ := o_read_part.ex
  refine okfN false W (d := d_read_diary) 19 sc_read_diary rfl rfl (fun _ _ _ _ _ _ us hl => match us, hl with | [_], _ => rfl) ?len (fun cdv A outer s H vs Q E hr nd hu tk bo h => ?body)
  case len =>
    rintro vs H Q E ⟨_, _, rfl, _⟩
    rfl
  case body =>
    have po := bo.po; refine ⟨_, (pss_cons (ps_if (pt_not (pt_val (pe_callB call_isiV (by rfl) (W.free 0) (by decide +kernel) (pa_cons (pv 0) (pa_cons (pe_bltn (v := .ty "str") (u := .type "str") rfl (W.free 11) (by decide +kernel) rfl) pa_nil))))) (pss_one (ps_raise rfl tk (W.pmk 18 19 rfl pe_str))) pss_nil)
    (pss_cons (ps_set (i := 1) nd rfl (by first | exact Or.inl rfl | exact Or.inr rfl) (pe_bm PySem.F.plainAttrs_str PySem.F.slot_str_split PySem.F.type_str_split mt_split (pv 0) (pa_cons pe_str pa_nil)))
    (pss_cons (ps_set (i := 2) nd rfl (by first | exact Or.inl rfl | exact Or.inr rfl) (pe_lst pa_nil))
    (pss_cons (ps_for po rfl (pi_range1 rfl (W.free 13) (pa_cons (pe_op op_sub (pe_callB call_len (by rfl) (W.free 3) (by decide +kernel) (pa_cons (pv 1) pa_nil)) pe_int) pa_nil)) (pg_name (i := 3) nd rfl (by first | exact Or.inl rfl | exact Or.inr rfl))
      (pss_one (ps_try_onlyR (tb := fun W => tDrop (tBM K "list" rAppend (tVar 2) (tCons (tCallS (spReadPart K) (WE W) (tCons (tOp (rIxL K) (tVar 1) (tVar 3)) (tCons (tOp (rI (fun _ j => 0 < j) fun i j => V.int (i % j)) (tVar 3) (tC (V.int 3))) tNil))) tNil))) rfl rfl ⟨rfl, by decide, .inl (W.glo 19)⟩ bo.pa tk (fun _ _ _ tk po => (pss_one (ps_expr (pe_bm PySem.F.plainAttrs_list PySem.F.slot_list_append PySem.F.type_list_append mt_append (pv 2) (pa_cons (by exact (pe_callS F_read_part (hr.mono (by first | decide | omega)) rfl (W.glo 38) k_read_part b_read_part (fun σ => passAt tk σ) (by exact (pa_cons (pe_ix ix_list (pv 1) (pv 3) (fun _ _ => rfl)) (pa_cons (pe_op op_mod (pv 3) pe_int) pa_nil))))) pa_nil))))) (fun a oe cls d pn hz hf tks hot => (pss_one (ps_raiseFN hot tks (W.pmk 18 19 rfl (pe_op op_add_str pe_str (pe_callTy call_str_int (by rfl) (W.free 11) (by decide +kernel) (pa_cons (pe_op op_add (pv 3) pe_int) pa_nil))))))))))
    (pss_cons (ps_if (PW.pt (pw_or (pt_cmpR op_ne (pe_ix ix_list (pv 1) (pe_un un_neg pe_int) (fun _ _ => rfl)) pe_str (nomark _)) (pw_or1 (pt_cmpR op_ne (pe_op op_mod (pe_callB call_len (by rfl) (W.free 3) (by decide +kernel) (pa_cons (pv 2) pa_nil)) pe_int) pe_int (nomark _))))) (pss_one (ps_raise rfl tk (W.pmk 18 19 rfl (pe_op op_add_str pe_str (pe_callTy (call_str1 rfl W.dg) (by rfl) (W.free 11) (by decide +kernel) (pa_cons (pe_op op_add (pe_callB call_len (by rfl) (W.free 3) (by decide +kernel) (pa_cons (pv 2) pa_nil)) pe_int) pa_nil)))))) pss_nil)
    (pss_one (ps_ret (pe_lc (own := [("t", 4)]) (g := (gName 4)) (tt := tYes) rfl nd (pi_range3 rfl (W.free 13) (pa_cons pe_int (pa_cons (pe_callB call_len (by rfl) (W.free 3) (by decide +kernel) (pa_cons (pv 2) pa_nil)) (pa_cons pe_int pa_nil)))) (blkOk_by (own := [("t", 4)]) (N := ["text", "lines", "parts", "at", "t"]) (sc := defScope s_read_diary) (by decide +kernel)) (fun _ _ _ _ _ => (pg_name (i := 4) nd rfl (by first | exact Or.inl rfl | exact Or.inr rfl))) (fun _ _ _ _ _ => pts_nil) (fun _ _ _ _ _ => (pe_tup (pa_cons (pe_ix (kIx (K := K) (r := rIxL) rfl ix_list) (pv 2) (pv 4) (fun _ _ => rfl)) (pa_cons (pe_make (W.mkr 37) F_Reply___init__ (hr.mono (by first | decide | omega)) rfl (W.glo 32) b_Reply___init__ .nil passL (pa_cons (pe_ix (kIx (K := K) (r := rIx) rfl ix_seq) (pe_ix (kIx (K := K) (r := rIxL) rfl ix_list) (pv 2) (pe_op op_add (pv 4) pe_int) (fun _ _ => rfl)) pe_int (fun _ _ => rfl)) (pa_cons (pe_ix (kIx (K := K) (r := rIx) rfl ix_seq) (pe_ix (kIx (K := K) (r := rIxL) rfl ix_list) (pv 2) (pe_op op_add (pv 4) pe_int) (fun _ _ => rfl)) pe_int (fun _ _ => rfl)) (pa_cons (pe_ix (kIx (K := K) (r := rIxL) rfl ix_list) (pv 2) (pe_op op_add (pv 4) pe_int) (fun _ _ => rfl)) pa_nil)))) pa_nil)))))))))))), ?_⟩
    obtain ⟨x, d, rfl, hd, hz, hq⟩ := h
    clear tk po bo
    walk_at "x"
    simp only [rIsaV]
    walk_at "x"
    refine ⟨by decide, _, IsaV.of hd, ?_⟩
    have szl := sizeLine_eq
    have ex := W.exm (x := "Malformed") (y := "Malformed") (b := true) 54
    cases hd with
    | str z =>
      have hz := hz z rfl
      simp only at hq
      have el : z.length = z.cps.toList.length := rfl
      refine iteF ⟨rfl, z, rfl, by decide +kernel, by omega, ?_⟩
      have es := SX.split_S (a := z.cps.toList) (b := [10]) (by simp) (by decide)
      rw [nl_lit, show Txt.split z (S [10]) = (rowsL z.cps.toList).map S from es]
      unfold diaryL at hq
      obtain ⟨hlen, hcnt⟩ := spl_lens [10] 0 [] z.cps.toList
      have hne := rowsL_ne z.cps.toList
      generalize hR : rowsL z.cps.toList = R at hq hne
      rw [show TL.spl [10] 0 [] z.cps.toList = R from hR] at hlen hcnt
      obtain ⟨I, e, rfl⟩ : ∃ I e, R = I ++ [e] := ⟨R.dropLast, R.getLast hne, (List.dropLast_concat_getLast hne).symm⟩
      rw [List.dropLast_concat] at hq
      intro L hL
      refine ⟨by decide, fun p hp => ?_⟩
      have nLp : p ≠ L := fun e => by rw [e, upd_same] at hp; cases hp
      rw [upd_ne nLp] at hp
      generalize hH1 : upd H L (.lst (((I ++ [e]).map S).map V.str)) = H1
      have sm1 : Same H H1 := by rw [← hH1]; exact Same.new hL
      have hL1 : H1 L = some (.lst (((I ++ [e]).map S).map V.str)) := by rw [← hH1, upd_same]
      have hp1 : H1 p = none := by rw [← hH1, upd_ne nLp]; exact hp
      have lI : I.length ≤ 20000 := by simp only [List.length_append, List.length_singleton] at hcnt; omega
      refine tFor_of (walk_range (lo := 0) (n := I.length)) (H1 := upd H1 p (.lst [])) ?_ (rdInv K H1 z L p I) ?_ (fun _ _ _ _ _ => trivial) ?_ ?_
      · intro R hR
        simp only [iRng1]
        walk_at "x"
        have l1 : ((((I ++ [e]).map S).map V.str).length : Int) - 1 = (I.length : Int) := by simp
        refine ⟨_, .inl ⟨_, SqL.of (by rw [upd_ne (ne_of_none hL1 hp1)]; exact hL1), rfl⟩, by omega, by omega, ?_⟩
        rw [l1, Int.toNat_natCast]
        exact hR
      · exact ⟨[], [], none, rfl, Same.new hp1, upd_same, hp1, .nil, rfl, rfl, by rw [List.drop_zero]; cases parts 0 I <;> rfl⟩
      · rintro i v σ H2 H3 hi ⟨ds, vs, y3, rfl, sm, h1, bp, hdp, him, hl, hpar⟩ ⟨rfl, rfl⟩
        have hI : I[i]? = some I[i] := List.getElem?_eq_getElem hi
        rw [drop_at hI] at hpar
        simp only [parts] at hpar
        walk_at "x"
        have hli : (((I ++ [e]).map S).map V.str)[i]? = some (.str (S I[i])) := by
          rw [List.getElem?_map, List.getElem?_map, List.getElem?_append_left hi, hI]
          rfl
        refine ⟨tyLst h1, _, SqL.of (sm _ _ hL1), _, by rw [Int.zero_add]; exact atI_nat hli, by decide, S I[i], i % 3, ?_, Nat.mod_lt _ (by decide), ?_, ?_⟩
        · rw [Int.zero_add]; rfl
        · rw [len_S]
          have := hlen I[i] (List.mem_append_left _ (List.getElem_mem hi))
          simp only [List.length_nil] at this
          omega
        · rw [tl_S]
          cases hpt : partL (i % 3) I[i] with
          | none =>
            rw [hpt] at hpar
            simp only at hpar
            rw [hpar] at hq
            intro H4 s4 y t ht
            refine ⟨true, ex, fun _ a ha => ⟨_, rfl, _, rfl, ?_⟩, fun q => nomatch q⟩
            obtain ⟨r1, r2, _⟩ := rowS_ok (n := i + 1) (by omega)
            have e1 : (0 : Int) + (i : Int) + 1 = ((i + 1 : Nat) : Int) := by omega
            rw [e1]
            refine ⟨r1, by rw [show (Str.ofString "row ").length = 4 by decide +kernel]; omega, ?_⟩
            exact hq.x (Same.trans (Same.trans sm1 sm) (Same.trans s4 (Same.new ht)))
          | some d =>
            rw [hpt] at hpar
            simp only at hpar
            intro v H4 s4 hv hi4
            have h4 := s4 _ _ h1
            have hl' := DpAll.length hdp
            refine ⟨_, h4, by omega, ds ++ [d], vs ++ [v], _, by rw [Int.zero_add], ?_, upd_same, bp, ?_, ?_, by rw [List.length_append, hl]; rfl, ?_⟩
            · exact Same.mut (Same.trans sm s4) bp
            · have tx : Tx H4 (upd H4 p (.lst (vs ++ [v]))) := Tx.up h4 noTup_l
              exact DpAll.app (Dp.txs tx _ _ him (Dp.sms s4 _ _ hdp)) (.cons (Dp.tx tx _ _ hi4 hv) .nil)
            · rw [immAll_app, him]
              simp [imm.immAll, hi4]
            · rw [hpar]
              cases parts (i + 1) (I.drop (i + 1)) <;> simp
      · rintro σ H' ⟨ds, vs, y3, rfl, sm, h1, bp, hdp, him, hl, hpar⟩
        rw [List.drop_length] at hpar
        simp only [parts, List.append_nil] at hpar
        rw [hpar] at hq
        walk_at "x"
        have hl' := DpAll.length hdp
        have lp : ds.length = I.length := hl
        have row : ∀ (k : Nat), k = ds.length + 1 → BadT K E H (rowS k) → ∃ x, LenV K (V.ref p) H' x ∧ rStr1 [V.int ((x : Int) + 1)] H' fun y H2 => ∃ x, y = V.str x ∧ (Str.ofString "row ").length + x.length ≤ sizeLine ∧ tX (Value.ref (He.ga K (Str.ofString "Malformed"))) (Str.ofString "row " ++ x) H2 fun cls d H' => E cls d H' := by
          intro k hk hb
          obtain ⟨r1, r2, r3⟩ := rowS_ok (n := k) (by omega)
          have e1 : ((vs.length : Nat) : Int) + 1 = ((k : Nat) : Int) := by omega
          refine ⟨vs.length, .inl ⟨_, SqL.of h1, rfl⟩, _, rfl, ?_⟩
          simp only
          rw [e1]
          exact ⟨r3, _, rfl, by rw [show (Str.ofString "row ").length = 4 by decide +kernel]; omega, hb.x (Same.trans sm1 sm)⟩
        have hll : atI (((I ++ [e]).map S).map V.str) (-1) = some (.str (S e)) := by
          rw [List.map_append, List.map_append]
          exact atI_last _ _
        refine ⟨_, SqL.of (sm _ _ hL1), _, hll, rfl, ?_⟩
        have hlast : (I ++ [e]).getLast? = some e := by simp
        rw [hlast] at hq
        simp only at hq
        by_cases he : e = []
        · refine iteF' (by rw [he, empty_lit]; simp) ?_
          refine ⟨vs.length, .inl ⟨_, SqL.of h1, rfl⟩, by decide, ?_⟩
          by_cases h3 : ds.length % 3 = 0
          · rw [if_pos ⟨congrArg some he, h3⟩] at hq
            refine iteF' (by simp; omega) ?_
            simp only at hq
            obtain ⟨m, hm⟩ : ∃ m, ds.length = 3 * m := ⟨ds.length / 3, by omega⟩
            have at_ := parts_at I 0 hpar
            refine tLc_of (walk_rangeC (lo := 0) (c := 3) (n := m)) (H1 := H') ?_ (rcInv K H' ds) ?_ (fun _ _ _ _ _ => trivial) ?_ ?_
            · intro R hR
              simp only [iRng3]
              walk_at "x"
              refine ⟨vs.length, .inl ⟨_, SqL.of h1, rfl⟩, m, ?_, hR⟩
              have := rgC3 m (by omega)
              rw [show vs.length = 3 * m by omega]
              exact this
            · intro D hD
              exact ⟨[], Same.new hD, upd_same, rfl, hD, fun j v h => by cases h⟩
            · rintro D j v H5 H6 hj ⟨es, s5, hD5, le, bD, hes⟩ ⟨rfl, rfl⟩
              have g0 : ds[3 * j]? = some (ds[3 * j]'(by omega)) := List.getElem?_eq_getElem (by omega)
              have g1 : ds[3 * j + 1]? = some (ds[3 * j + 1]'(by omega)) := List.getElem?_eq_getElem (by omega)
              have g2 : ds[3 * j + 2]? = some (ds[3 * j + 2]'(by omega)) := List.getElem?_eq_getElem (by omega)
              generalize ds[3 * j]'(by omega) = x0 at g0
              generalize ds[3 * j + 1]'(by omega) = x1 at g1
              generalize ds[3 * j + 2]'(by omega) = x2 at g2
              obtain ⟨l1, q1⟩ := at_ _ _ g1
              rw [show (0 + (3 * j + 1)) % 3 = 1 by omega] at q1
              obtain ⟨k, t, rfl⟩ := partL_1 q1
              have hd6 := Dp.sms s5 _ _ hdp
              have v0 : vs[3 * j]? = some (vs[3 * j]'(by omega)) := List.getElem?_eq_getElem (by omega)
              have v1 : vs[3 * j + 1]? = some (vs[3 * j + 1]'(by omega)) := List.getElem?_eq_getElem (by omega)
              have v2 : vs[3 * j + 2]? = some (vs[3 * j + 2]'(by omega)) := List.getElem?_eq_getElem (by omega)
              generalize vs[3 * j]'(by omega) = w0 at v0
              generalize vs[3 * j + 1]'(by omega) = w1 at v1
              generalize vs[3 * j + 2]'(by omega) = w2 at v2
              obtain ⟨_, r0, p0⟩ := DpAll.get hd6 v0
              obtain ⟨_, r1, p1⟩ := DpAll.get hd6 v1
              obtain ⟨_, r2, p2⟩ := DpAll.get hd6 v2
              rw [g0] at r0; cases r0
              rw [g1] at r1; cases r1
              rw [g2] at r2; cases r2
              have im0 := imm_get him g0
              have im1 := imm_get him g1
              have im2 := imm_get him g2
              simp only [gName, tYes]
              walk_at "x"
              have hp6 := s5 _ _ h1
              have f0 : (0 : Int) + (j : Int) * 3 = ((3 * j : Nat) : Int) := by omega
              have f1 : ((3 * j : Nat) : Int) + 1 = ((3 * j + 1 : Nat) : Int) := by omega
              have f2 : ((3 * j : Nat) : Int) + 2 = ((3 * j + 2 : Nat) : Int) := by omega
              rw [f0, f1, f2]
              obtain ⟨a1, u0, u1, ew, t1, tk, tt⟩ := dp_two p1
              subst ew
              · · 
                  refine ⟨_, SqL.of hp6, _, atI_nat v0, _, SqL.of hp6, _, atI_nat v1, .inr (.inl ⟨a1, [u0, u1], _, u0, rfl, rfl, t1, atI_nat (j := 0) rfl, _, SqL.of hp6, _, atI_nat v1, .inr (.inl ⟨a1, [u0, u1], _, u1, rfl, rfl, t1, atI_nat (j := 1) rfl, _, SqL.of hp6, _, atI_nat v2, ?_⟩)⟩)⟩
                  intro r dx hr hdx ne
                  refine ⟨r, dx, u0, u1, w2, rfl, upd_same, rfl, by decide, fun b hb => ?_⟩
                  rw [upd_upd] at hb ⊢
                  have nbr : b ≠ r := fun e => by rw [e, upd_same] at hb; cases hb
                  rw [upd_ne nbr] at hb
                  have nbx : b ≠ dx := fun e => by rw [e, upd_same] at hb; cases hb
                  rw [upd_ne nbx] at hb
                  have nDr : D ≠ r := ne_of_none hD5 hr
                  have nDx : D ≠ dx := ne_of_none hD5 hdx
                  have nDb : D ≠ b := ne_of_none hD5 hb
                  generalize hH7 : upd (upd (upd H6 dx (.own r)) r (.ins (cRep K) dx (repF u0 u1 w2))) b (.tup [w0, .ref r]) = H7
                  have s7 : Same H6 H7 := by
                    rw [← hH7]
                    exact Same.mut (Same.mut (Same.new hdx) hr) hb
                  have hD7 : H7 D = some (.lst es) := s7 _ _ hD5
                  have eg : EntG K H7 (.ref b) x0 (.tuple [.str k, .str t]) x2 := by
                    refine ⟨b, w0, r, .str k, .str t, rfl, SqT.of (by rw [← hH7, upd_same]), Dp.sm s7 _ _ p0, rfl, ⟨dx, u0, u1, w2, by rw [← hH7, upd_ne nbr.symm, upd_same], Dp.sm s7 _ _ tk, Dp.sm s7 _ _ tt, Dp.sm s7 _ _ p2⟩, im0, im1, im2⟩
                  refine ⟨es, hD7, by omega, es ++ [.ref b], Same.mut (Same.trans s5 s7) bD, upd_same, by rw [List.length_append, le]; rfl, bD, fun i v hv => ?_⟩
                  rcases Nat.lt_trichotomy i es.length with h | h | h
                  · rw [List.getElem?_append_left h] at hv
                    obtain ⟨x, y, d, c1, c2, c3, c4⟩ := hes i v hv
                    exact ⟨x, y, d, c1, c2, c3, (c4.same s7).upd hD7⟩
                  · subst h
                    have ev : V.ref b = v := by simpa using hv
                    subst ev
                    rw [le]
                    exact ⟨_, _, _, g0, g1, g2, eg.upd hD7⟩
                  · rw [List.getElem?_eq_none (by rw [List.length_append, List.length_singleton]; omega)] at hv
                    cases hv
            · rintro D H5 ⟨es, s5, hD5, le, bD, hes⟩
              exact hq D es H5 (Same.trans sm1 (Same.trans sm s5)) ((Same.trans sm1 sm).free bD) hD5 (by omega) hes fun d hd => imm_mem him hd
          · rw [if_neg (fun h => h3 h.2)] at hq
            exact iteT' (by simp; omega) (row _ rfl hq)
        · rw [if_neg (fun h => he (Option.some.inj h.1))] at hq
          exact iteT' (by rw [empty_lit]; simp only [V.str.injEq, S_inj]; simpa using he) (row _ rfl hq)
    | _ => exact iteT (hq.x (Same.refl _))
end
end WW

set_option maxHeartbeats 4000000
namespace WW
open PySem PySem.Spec PyProof.Rows L2
local macro_rules | `(tactic| walk_at "x") => `(tactic| simp only [tSeq, tNext, tAsg, gName, tRet, tRetN, tIfS, tOp, tUn, rI, rI0, rU, tTest, tB, tAnd, tOr, tNot, tAndV, tOrV, tNotV, tIf, tCons, tNil, tTup, tLst, tCall, tCallS, tMeth, tMake, tFld, sFld, tBM, tBM0, tCB, tSl, tPart, tNoPart, tDrop, tPar, tPar3, tAug, ipI, gTup, gCons, gNil, gSub, rSetL, rAppend, rPop, rIxL, rIxS, rIxT, rEq, rNe, tChain, tNever, tThen, tVar, tC, L2.start, List.map_cons, List.map_nil, List.length_cons, List.length_nil, List.replicate_succ, List.replicate_zero, List.append_nil, List.nil_append, List.cons_append, Nat.reduceAdd, Nat.reduceSub, Nat.add_zero, Nat.zero_add, Nat.sub_zero, Nat.sub_self,
  List.getElem?_cons_zero, List.getElem?_cons_succ, Option.some.injEq, exists_eq_left', exists_eq_left, exists_eq', exists_eq, exists_and_left, List.set_cons_zero, List.set_cons_succ, V.int.injEq, V.bl.injEq, V.str.injEq, V.ref.injEq, V.ty.injEq, List.cons.injEq, and_true, true_and, and_assoc, if_true, if_false, Bool.false_eq_true, reduceCtorEq, false_and, and_false, exists_false, false_or, or_false, Bool.not_true, Bool.not_false, decide_eq_true_eq, ite_true, ite_false, WE, cxOf_K, cxOf_mg, rSlS, scal, wipe, mem_low, mem_dig, mem_brk, mem_brk4, sgn_inj, Bool.decide_eq_true])

structure DrAt (H : Hp) (dr cs : Addr) (ns : List Int) (p q sd : Int) : Prop where
  d : H dr = some (.lst [.ref cs, .int p, .int q, .int sd])
  c : H cs = some (.lst (ns.map V.int))
  pp : -1 ≤ p
  qq : 0 ≤ q
  s0 : 0 ≤ sd
  s1 : sd < 2147483648
def Dr (H : Hp) (dr cs : Addr) : Prop := ∃ ns p q sd, DrAt H dr cs ns p q sd ∧ (∀ n ∈ ns, 0 ≤ n) ∧ ns.length ≤ 1000
theorem DrAt.ne {H : Hp} {dr cs : Addr} {ns : List Int} {p q sd : Int} (g : DrAt H dr cs ns p q sd) : cs ≠ dr := by
  rintro rfl
  have := g.c.symm.trans g.d
  cases ns with
  | nil => cases this
  | cons n ns => simp at this
theorem DrAt.mk' {H : Hp} {dr cs : Addr} {ns : List Int} {p q sd p' q' sd' : Int} (g : DrAt H dr cs ns p q sd) (a1 : -1 ≤ p') (a2 : 0 ≤ q') (a3 : 0 ≤ sd') (a4 : sd' < 2147483648) : DrAt (upd H dr (.lst [.ref cs, .int p', .int q', .int sd'])) dr cs ns p' q' sd' :=
  ⟨upd_same, by rw [upd_ne g.ne]; exact g.c, a1, a2, a3, a4⟩
theorem SqL.same {K : PySem.W.Frag} {H H' : Hp} {a : Addr} {xs : List V} (t : Same H H') (h : SqL K H a xs) : SqL K H' a xs := Same.seq t h
def spDraw (K : PySem.W.Frag) : Sp := fun vs H Q _ => ∃ (l : Addr) (ns : List Int), vs = [.ref l] ∧ SqL K H l (ns.map V.int) ∧ ns.length ≤ 63 ∧ ∀ dr cs H', Same H H' → H dr = none → H cs = none → Dr H' dr cs → Q (.ref dr) H'
def spTake1 : Sp := fun vs H Q _ => ∃ (dr cs : Addr) (m : Int), vs = [.ref dr, .int m] ∧ 0 < m ∧ m < 1000000 ∧ Dr H dr cs ∧ ∀ (n : Nat) H', (n : Int) < m → (∀ a, a ≠ dr → H' a = H a) → Dr H' dr cs → Q (.int (n : Int)) H'
section
variable {P : Program} {w : World} {K : PySem.W.Frag} {mg : Str → Option Value} {base : Heap}
theorem o__law_draw (W : Wd fa fn K mg) : OkF P w K mg base d__law_draw 1 ["script"] (spDraw K) := by
  refine okfN true W (d := d__law_draw) 20 sc__law_draw rfl rfl (fun _ _ _ _ _ _ us hl => match us, hl with | [_], _ => rfl) ?len (fun cdv A outer s H vs Q E hr nd hu tk bo h => ?body)
  case len =>
    rintro vs H Q E ⟨_, _, rfl, _⟩
    rfl
  case body =>
    have po := bo.po; refine ⟨_, (pss_cons (ps_set (i := 1) nd rfl (by first | exact Or.inl rfl | exact Or.inr rfl) pe_int)
    (pss_cons (ps_for po rfl (pi_list (pv 0)) (pg_name (i := 2) nd rfl (by first | exact Or.inl rfl | exact Or.inr rfl))
      (pss_one (ps_set (i := 1) nd rfl (by first | exact Or.inl rfl | exact Or.inr rfl) (pe_op op_mod (pe_callTy call_int1 (by rfl) (W.free 2) (by decide +kernel) (pa_cons (pe_op op_add (pe_op op_add (pe_op op_mul (pv 1) pe_int) (pe_op op_mod (pe_callB call_abs (by rfl) (W.free 39) (by decide +kernel) (pa_cons (pe_callTy call_int1 (by rfl) (W.free 2) (by decide +kernel) (pa_cons (pv 2) pa_nil)) pa_nil)) pe_int)) pe_int) pa_nil)) pe_int))))
    (pss_one (ps_ret (pe_lst (pa_cons (pe_lc (own := [("cell", 2)]) (g := (gName 2)) (tt := tYes) rfl nd (pi_list (pv 0)) (blkOk_by (own := [("cell", 2)]) (N := ["script", "seed", "cell"]) (sc := defScope s__law_draw) (by decide +kernel)) (fun _ _ _ _ _ => (pg_name (i := 2) nd rfl (by first | exact Or.inl rfl | exact Or.inr rfl))) (fun _ _ _ _ _ => pts_nil) (fun _ _ _ _ _ => (pe_callB call_abs (by rfl) (W.free 39) (by decide +kernel) (pa_cons (pe_callTy call_int1 (by rfl) (W.free 2) (by decide +kernel) (pa_cons (pv 2) pa_nil)) pa_nil)))) (pa_cons (pe_un un_neg pe_int) (pa_cons pe_int (pa_cons (pv 1) pa_nil))))))))), ?_⟩
    obtain ⟨l, ns, rfl, hs, hl, hq⟩ := h
    clear tk po bo
    walk_at "x"
    refine tFor_same (walk_list (K := K) (a := l) (xs := ns.map V.int)) ?_ (fun i σ H' => H' = H ∧ ∃ sd y, σ = [some (.ref l), some (.int sd), y] ∧ 0 ≤ sd ∧ sd < 2147483648) ⟨rfl, 7, none, rfl, by decide, by decide⟩ (fun _ _ _ _ h => h.1 ▸ hs) ?_ ?_
    · intro R hR
      simp only [iList]
      walk_at "x"
      exact ⟨⟨_, hs⟩, hR⟩
    · rintro i x σ H1 H2 hi ⟨rfl, sd, y, rfl, s0, s1⟩ ⟨rfl, hx⟩
      rw [List.getElem?_map] at hx
      obtain ⟨c, _, rfl⟩ := Option.map_eq_some_iff.mp hx
      walk_at "x"
      refine ⟨.inr ⟨by omega, by omega⟩, by decide, by decide, ?_, ?_⟩ <;> omega
    · rintro σ H1 ⟨rfl, sd, y, rfl, s0, s1⟩
      walk_at "x"
      refine tLc_of (walk_list (K := K) (a := l) (xs := ns.map V.int)) (H1 := H1) ?_ (fun D i H' => Same H1 H' ∧ H1 D = none ∧ H' D = some (.lst (((ns.map fun c => if c < 0 then -c else c).take i).map V.int))) ?_ ?_ ?_ ?_
      · intro R hR
        simp only [iList]
        walk_at "x"
        exact ⟨⟨_, hs⟩, hR⟩
      · intro D hD
        exact ⟨Same.new hD, hD, upd_same⟩
      · rintro D i H' _ ⟨sm, hD, _⟩
        exact (SqL.same sm hs)
      · rintro D i x H2 H3 hi ⟨sm, hD, h2⟩ ⟨rfl, hx⟩
        rw [List.length_map] at hi
        rw [List.getElem?_map] at hx
        obtain ⟨c, hc, rfl⟩ := Option.map_eq_some_iff.mp hx
        walk_at "x"
        refine ⟨_, h2, by rw [List.length_map, List.length_take, List.length_map, sizeLine_eq]; omega, Same.mut sm hD, hD, ?_⟩
        rw [List.take_succ, List.getElem?_map, hc]
        simp
        exact upd_same
      · rintro D H2 ⟨sm, hD, h2⟩
        refine ⟨by decide, fun p hp => ?_⟩
        have n1 : D ≠ p := ne_of_none h2 hp
        refine hq _ D _ (Same.mut sm (Same.none sm hp)) (Same.none sm hp) hD ⟨ns.map fun c => if c < 0 then -c else c, -1, 0, sd, ⟨upd_same, ?_, by decide, by decide, s0, s1⟩, ?_, by rw [List.length_map]; omega⟩
        · rw [upd_ne n1, h2, List.take_of_length_le (by simp)]
        · intro n hn
          obtain ⟨c, _, rfl⟩ := List.mem_map.mp hn
          split <;> omega
theorem o__law_take (W : Wd fa fn K mg) : OkF P w K mg base d__law_take 1 ["draw", "many"] spTake1 := by
  refine okfN true W (d := d__law_take) 21 sc__law_take rfl rfl (fun _ _ _ _ _ _ us hl => match us, hl with | [_, _], _ => rfl) ?len (fun cdv A outer s H vs Q E hr nd hu tk bo h => ?body)
  case len =>
    rintro vs H Q E ⟨_, _, _, rfl, _⟩
    rfl
  case body =>
    have po := bo.po; refine ⟨_, (Evl.pss_cut (ps_if (pt_cmpR op_eq (pe_ix ix_list (pv 0) pe_int (fun _ _ => rfl)) pe_int (nomark _)) (pss_cons (ps_asg (pe_op op_add (pe_ix ix_list (pv 0) pe_int (fun _ _ => rfl)) pe_int) (pg_sub (pv 0) pe_int set_list))
    (Evl.pss_cut (ps_if (pt_cmpR op_lt (pe_ix ix_list (pv 0) pe_int (fun _ _ => rfl)) (pe_callB call_len (by rfl) (W.free 3) (by decide +kernel) (pa_cons (pe_ix ix_list (pv 0) pe_int (fun _ _ => rfl)) pa_nil)) (nomark _)) (pss_one (ps_asg (pe_ix ix_list (pe_ix ix_list (pv 0) pe_int (fun _ _ => rfl)) (pe_ix ix_list (pv 0) pe_int (fun _ _ => rfl)) (fun _ _ => rfl)) (pg_sub (pv 0) pe_int set_list))) pss_nil)
    (pss_one (ps_if (pt_cmpR op_eq (pe_ix ix_list (pv 0) pe_int (fun _ _ => rfl)) pe_int (nomark _)) (pss_cons (ps_asg (pe_op op_mod (pe_callTy call_int1 (by rfl) (W.free 2) (by decide +kernel) (pa_cons (pe_op op_add (pe_op op_mul (pe_ix ix_list (pv 0) pe_int (fun _ _ => rfl)) pe_int) pe_int) pa_nil)) pe_int) (pg_sub (pv 0) pe_int set_list))
    (pss_one (ps_asg (pe_ix ix_list (pv 0) pe_int (fun _ _ => rfl)) (pg_sub (pv 0) pe_int set_list)))) pss_nil)))) pss_nil)
    (pss_cons (ps_set (i := 2) nd rfl (by first | exact Or.inl rfl | exact Or.inr rfl) (pe_op op_mod (pe_callTy call_int1 (by rfl) (W.free 2) (by decide +kernel) (pa_cons (pe_ix ix_list (pv 0) pe_int (fun _ _ => rfl)) pa_nil)) (pv 1)))
    (pss_cons (ps_asg (pe_op op_fdiv (pe_ix ix_list (pv 0) pe_int (fun _ _ => rfl)) (pv 1)) (pg_sub (pv 0) pe_int set_list))
    (pss_one (ps_ret (pv 2)))))), ?_⟩
    obtain ⟨dr, cs, m, rfl, hm0, hm1, ⟨ns, p, q, sd, g, hns, hnl⟩, hq⟩ := h
    clear tk po bo
    unfold Evl.tCut
    refine ⟨fun σ H' => σ = [some (.ref dr), some (.int m), none] ∧ ∃ p q sd, DrAt H' dr cs ns p q sd ∧ ∀ a, a ≠ dr → H' a = H a, ?_, ?_⟩
    · walk_at "x"
      refine ⟨_, SqL.of g.d, _, rfl, rfl, ?_⟩
      by_cases h0 : q = 0
      · subst h0
        rw [if_pos rfl]
        have pp := g.pp
        have g1 := g.mk' (p' := p + 1) (q' := 0) (sd' := sd) (by omega) (by omega) g.s0 g.s1
        refine ⟨_, SqL.of g.d, _, rfl, _, rfl, _, g.d, _, rfl, fun σ H' => σ = [some (.ref dr), some (.int m), none] ∧ ∃ p q sd, DrAt H' dr cs ns p q sd ∧ ∀ a, a ≠ dr → H' a = H a, ?_, ?_⟩
        · simp only [List.set_cons_succ, List.set_cons_zero]
          refine ⟨_, SqL.of upd_same, _, rfl, _, SqL.of upd_same, _, rfl, ns.length, .inl ⟨_, SqL.of g1.c, by simp⟩, _, rfl, ?_⟩
          by_cases h1 : p + 1 < (ns.length : Int)
          · rw [if_pos h1]
            have h2 : (p + 1).toNat < ns.length := by omega
            have e1 : (ns.map V.int)[(p + 1).toNat]? = some (.int ns[(p + 1).toNat]) := by rw [List.getElem?_map, List.getElem?_eq_getElem h2]; rfl
            have e2 : atI (ns.map V.int) (p + 1) = some (.int ns[(p + 1).toNat]) := by
              have := atI_nat e1
              rwa [show (((p + 1).toNat : Nat) : Int) = p + 1 by omega] at this
            have n0 := hns _ (List.getElem_mem h2)
            have g2 := g1.mk' (p' := p + 1) (q' := ns[(p + 1).toNat]) (sd' := sd) (by omega) n0 g.s0 g.s1
            rw [upd_upd] at g2
            refine ⟨_, SqL.of upd_same, _, rfl, _, SqL.of upd_same, _, rfl, cs, rfl, _, _, rfl, SqL.of g1.c, _, e2, _, upd_same, _, rfl, trivial, p + 1, ns[(p + 1).toNat], sd, ?_, fun a ha => by rw [upd_ne ha, upd_ne ha]⟩
            rw [upd_upd]
            exact g2
          · rw [if_neg h1]
            exact ⟨trivial, _, _, _, g1, fun a ha => upd_ne ha⟩
        · rintro σ H2 ⟨rfl, p2, q2, sd2, g2, kp⟩
          refine ⟨_, rfl, dr, rfl, _, SqL.of g2.d, _, rfl, rfl, ?_⟩
          by_cases h1 : q2 = 0
          · subst h1
            rw [if_pos rfl]
            have g3 := g2.mk' (p' := p2) (q' := (sd2 * 48271 + 11) % 2147483647) (sd' := (sd2 * 48271 + 11) % 2147483647) g2.pp (by omega) (by omega) (by omega)
            refine ⟨_, rfl, dr, rfl, _, SqL.of g2.d, _, rfl, _, rfl, .inr ⟨by decide, by decide⟩, by decide, _, rfl, dr, rfl, _, g2.d, _, rfl, _, rfl, dr, rfl, _, SqL.of upd_same, _, rfl, _, rfl, dr, rfl, _, upd_same, _, rfl, rfl, p2, (sd2 * 48271 + 11) % 2147483647, (sd2 * 48271 + 11) % 2147483647, ?_, fun a ha => by rw [upd_ne ha, upd_ne ha]; exact kp a ha⟩
            rw [upd_upd]
            exact g3
          · rw [if_neg (by simpa using h1)]
            exact ⟨rfl, _, _, _, g2, kp⟩
      · rw [if_neg (by simpa using h0)]
        exact ⟨_, _, _, g, fun _ _ => trivial⟩
    · rintro σ H1 ⟨rfl, p1, q1, sd1, g1, kp⟩
      walk_at "x"
      refine ⟨_, SqL.of g1.d, _, rfl, .inl ⟨_, rfl, hm0, _, SqL.of g1.d, _, rfl, _, rfl, ⟨hm0, by omega⟩, _, g1.d, _, rfl, ?_⟩⟩
      have r1 := Int.emod_nonneg q1 (show m ≠ 0 by omega)
      have r2 := Int.emod_lt_of_pos q1 hm0
      have g2 := g1.mk' (p' := p1) (q' := q1 / m) (sd' := sd1) g1.pp (Int.ediv_nonneg g1.qq (by omega)) g1.s0 g1.s1
      have := hq (q1 % m).toNat _ (by omega) (fun a ha => by rw [upd_ne ha]; exact kp a ha) ⟨ns, _, _, _, g2, hns, hnl⟩
      rw [show (((q1 % m).toNat : Nat) : Int) = q1 % m by omega] at this
      exact this
end
end WW

set_option maxHeartbeats 4000000
namespace WW
open PySem PySem.Spec PyProof.Rows L2
/-! ### data and their texts -/
def leafOk : PyData → Bool
  | .str z => wordL z.cps.toList
  | .int i => shortI i && decide (i.natAbs.log2 < 1920)
  | _ => false
mutual
def plainD : Nat → PyData → Bool
  | 0, _ => false
  | n + 1, .tuple ds => plainDs n ds
  | _ + 1, .str z => leafOk (.str z)
  | _ + 1, .int i => leafOk (.int i)
  | _ + 1, _ => false
def plainDs : Nat → List PyData → Bool
  | _, [] => true
  | n, d :: ds => plainD n d && plainDs n ds
end
mutual
def wT : PyData → List Nat
  | .tuple ds => 91 :: (wTs ds ++ [93])
  | .str z => strD (.str z)
  | .int i => strD (.int i)
  | _ => []
def wTs : List PyData → List Nat
  | [] => []
  | d :: ds => if ds.isEmpty then wT d else wT d ++ 44 :: wTs ds
end
/-- what a drawn datum is -/
inductive Gen : Nat → PyData → Prop
  | word {n z} : z ∈ [S [97], S [120, 57]] → Gen n (.str z)
  | int {n i} : i ∈ [(0 : Int), -5, 1000] → Gen n (.int i)
  | tup {n ds} : ds.length ≤ 2 → (∀ d ∈ ds, Gen n d) → Gen (n + 1) (.tuple ds)
def Kp (dr cs : Addr) (H H' : Hp) : Prop := (∀ a o, a ≠ dr → H a = some o → H' a = some o) ∧ Dr H' dr cs
theorem Dr.of_eq {H H' : Hp} {dr cs : Addr} (h : ∀ a o, H a = some o → H' a = some o) (D : Dr H dr cs) : Dr H' dr cs := by
  obtain ⟨ns, p, q, sd, g, h1, h2⟩ := D
  exact ⟨ns, p, q, sd, ⟨h _ _ g.d, h _ _ g.c, g.pp, g.qq, g.s0, g.s1⟩, h1, h2⟩
theorem Kp.of {dr cs : Addr} {H H1 : Hp} (fr : ∀ a, a ≠ dr → H1 a = H a) (h : Dr H1 dr cs) : Kp dr cs H H1 := ⟨fun a o n e => by rw [fr a n]; exact e, h⟩
theorem Kp.refl {dr cs : Addr} {H : Hp} (h : Dr H dr cs) : Kp dr cs H H := ⟨fun _ _ _ e => e, h⟩
theorem Kp.trans {dr cs : Addr} {H H1 H2 : Hp} (a : Kp dr cs H H1) (b : Kp dr cs H1 H2) : Kp dr cs H H2 := ⟨fun p o n e => b.1 p o n (a.1 p o n e), b.2⟩
theorem Kp.same {dr cs : Addr} {H H1 : Hp} (D : Dr H dr cs) (s : Same H H1) : Kp dr cs H H1 := ⟨fun a o _ e => s a o e, Dr.of_eq s D⟩
theorem Kp.new {dr cs p : Addr} {H H1 : Hp} {o : HO} (a : Kp dr cs H H1) (h : H1 p = none) : Kp dr cs H (upd H1 p o) := a.trans (Kp.same a.2 (Same.new h))
theorem Kp.tx {dr cs : Addr} {H H1 : Hp} (D : Dr H dr cs) (a : Kp dr cs H H1) : Tx H H1 := fun b xs => by
  obtain ⟨ns, p, q, sd, g, _, _⟩ := D
  refine ⟨fun e => a.1 b _ (fun n => ?_) e, fun o e => a.1 b _ (fun n => ?_) e⟩ <;> (rw [n, g.d] at e; cases e)
theorem Kp.mut {dr cs D : Addr} {H H1 : Hp} {o : HO} (a : Kp dr cs H H1) (D0 : Dr H dr cs) (h : H D = none) : Kp dr cs H (upd H1 D o) := by
  obtain ⟨ns, p, q, sd, g, _, _⟩ := D0
  obtain ⟨ns', p', q', sd', g', h1, h2⟩ := a.2
  have n1 : dr ≠ D := ne_of_none g.d h
  have n2 : cs ≠ D := ne_of_none g.c h
  exact ⟨fun b u nb e => by rw [upd_ne (ne_of_none e h)]; exact a.1 b u nb e, ns', p', q', sd', ⟨by rw [upd_ne n1]; exact g'.d, by rw [upd_ne n2]; exact g'.c, g'.pp, g'.qq, g'.s0, g'.s1⟩, h1, h2⟩
theorem immAllG : ∀ es : List PyData, (∀ d ∈ es, imm d = true) → imm.immAll es = true := by
  intro es
  induction es with
  | nil => intro _; rfl
  | cons c es ih =>
    intro h
    simp only [imm.immAll, Bool.and_eq_true]
    exact ⟨h c (List.mem_cons_self ..), ih fun d hd => h d (List.mem_cons_of_mem _ hd)⟩
theorem Gen.imm {n : Nat} {d : PyData} (h : Gen n d) : imm d = true := by
  induction h with
  | word _ => rfl
  | int _ => rfl
  | tup _ _ ih =>
    rename_i ds h1 h2
    simp only [WW.imm]
    clear h1 h2
    induction ds with
    | nil => rfl
    | cons c ds ih2 =>
      simp only [WW.imm.immAll, Bool.and_eq_true]
      exact ⟨ih c (List.mem_cons_self ..), ih2 fun d hd => ih d (List.mem_cons_of_mem _ hd)⟩
theorem wTs_cons (d : PyData) (ds : List PyData) : wTs (d :: ds) = if ds.isEmpty then wT d else wT d ++ 44 :: wTs ds := by simp only [wTs]
theorem wTs_each : ∀ (ds : List PyData), ∀ d ∈ ds, (wT d).length ≤ (wTs ds).length
  | [], _, h => nomatch h
  | c :: ds, d, h => by
    rw [wTs_cons]
    rcases List.mem_cons.mp h with rfl | h
    · split
      · exact Nat.le_refl _
      · rw [List.length_append]; omega
    · have := wTs_each ds d h
      rw [if_neg (by cases ds with | nil => cases h | cons _ _ => simp)]
      rw [List.length_append, List.length_cons]
      omega
theorem wTs_count : ∀ (ds : List PyData), ds.length ≤ (wTs ds).length + 1
  | [] => by simp
  | c :: ds => by
    rw [wTs_cons, List.length_cons]
    have := wTs_count ds
    split
    · cases ds with
      | nil => simp
      | cons _ _ => simp at *
    · rw [List.length_append, List.length_cons]
      omega
theorem wTs_sum : ∀ (ds : List PyData), (ds.map fun d => (wT d).length).sum ≤ (wTs ds).length
  | [] => by simp
  | c :: ds => by
    rw [wTs_cons, List.map_cons, List.sum_cons]
    have := wTs_sum ds
    split
    · cases ds with
      | nil => simp
      | cons _ _ => simp at *
    · rw [List.length_append, List.length_cons]
      omega
theorem plainDs_get {n : Nat} {ds : List PyData} (h : plainDs n ds = true) {i : Nat} {d : PyData} (e : ds[i]? = some d) : plainD n d = true := by
  induction ds generalizing i with
  | nil => simp at e
  | cons c ds ih =>
    simp only [plainDs, Bool.and_eq_true] at h
    cases i with
    | zero => simp at e; exact e ▸ h.1
    | succ i => exact ih h.2 (by simpa using e)
theorem joinL_44 : ∀ ds : List PyData, TL.joinL [44] (ds.map wT) = wTs ds
  | [] => by simp [TL.joinL, wTs]
  | [d] => by simp [TL.joinL, wTs]
  | d :: e :: ds => by
    have ih := joinL_44 (e :: ds)
    rw [wTs_cons, ← ih]
    simp [TL.joinL]
theorem join_wTs (ds : List PyData) : Txt.join (Str.ofString ",") (ds.map fun d => S (wT d)) = S (wTs ds) := by
  apply str_ext
  rw [show (Txt.join (Str.ofString ",") (ds.map fun d => S (wT d))).cps.toList = TL.tl (Txt.join (Str.ofString ",") (ds.map fun d => S (wT d))) from rfl, TL.join_eq, TL.tl_join]
  rw [show TL.tl (Str.ofString ",") = [44] by decide +kernel, List.map_map, show (TL.tl ∘ fun d => S (wT d)) = wT from rfl, joinL_44]
  rfl
/-! ### the law's reader, plain -/
structure LS where
  rows : List (List PyData)
  cur : Option PyData
def LS.token (s : LS) (tok : List Nat) : Option LS := if tok = [] then some s else match atomR tok with
  | some a => if s.cur.isNone then some ⟨s.rows, some a⟩ else none
  | none => none
def LS.sign (s : LS) (c : Nat) : Option LS :=
  if c = 91 then (if s.cur.isNone then some ⟨[] :: s.rows, none⟩ else none)
  else if c = 44 then (match s.cur, s.rows with
    | some d, row :: rest => some ⟨(row ++ [d]) :: rest, none⟩
    | _, _ => none)
  else if c = 93 then (match s.rows with
    | [] => none
    | row :: rest => if s.cur.isNone && decide (row ≠ []) then none else some ⟨rest, some (.tuple (row ++ s.cur.toList))⟩)
  else some s
def isEnd (c : Nat) : Bool := isBrk c || c == 59
def LS.run (s : LS) (tok : List Nat) : List Nat → Option LS
  | [] => some s
  | c :: l => if isEnd c then (s.token tok).bind fun s1 => (s1.sign c).bind fun s2 => s2.run [] l else s.run (tok ++ [c]) l
def lrd (l : List Nat) : Option PyData := match LS.run ⟨[], none⟩ [] (l ++ [59]) with
  | some ⟨[], some d⟩ => if 59 ∈ l then none else some d
  | _ => none
/-- no token is longer than M -/
def runs (M : Nat) : Nat → List Nat → Prop
  | t, [] => t ≤ M
  | t, c :: l => t ≤ M ∧ runs M (if isEnd c then 0 else t + 1) l
def rsOf (s : LS) : RS := ⟨(match s.rows with
  | [] => []
  | row :: rest => (row ++ s.cur.toList) :: rest), s.cur.isNone, if s.rows = [] then s.cur.toList else []⟩
theorem rs_item (s : LS) (d : PyData) : (rsOf s).item d = if s.cur.isNone then some (rsOf ⟨s.rows, some d⟩) else none := by
  obtain ⟨rows, cur⟩ := s
  cases cur with
  | some e => simp [rsOf, RS.item]
  | none => cases rows <;> simp [rsOf, RS.item]
theorem rs_token (s : LS) (tok : List Nat) (ht : ∀ c ∈ tok, isEnd c = false) : takes (rsOf s) (if tok = [] then [] else [tok]) = (s.token tok).map rsOf := by
  unfold LS.token
  by_cases h : tok = []
  · rw [if_pos h, if_pos h]; rfl
  · rw [if_neg h, if_neg h]
    have nb : ∀ b, isEnd b = true → tok ≠ [b] := by
      rintro b hb rfl
      rw [ht b (List.mem_singleton.mpr rfl)] at hb
      cases hb
    have e : takes (rsOf s) [tok] = (rsOf s).take tok := by
      show ((rsOf s).take tok).bind (fun s' => takes s' []) = _
      cases (rsOf s).take tok <;> rfl
    rw [e]
    unfold RS.take
    rw [if_neg (nb 91 rfl), if_neg (nb 93 rfl), if_neg (nb 44 rfl)]
    cases atomR tok with
    | none => rfl
    | some a =>
      simp only [Option.bind_some, rs_item]
      split <;> rfl
theorem rs_sign (s : LS) {c : Nat} (hc : isBrk c = true) (hn : s.rows.length < 1000) : (rsOf s).take [c] = (s.sign c).map rsOf := by
  obtain ⟨rows, cur⟩ := s
  unfold RS.take LS.sign
  by_cases c1 : c = 91
  · subst c1
    rw [if_pos rfl, if_pos rfl]
    cases cur with
    | some e => simp [rsOf, RS.open_]
    | none =>
      have e1 : (rsOf ⟨rows, none⟩).rows = rows := by cases rows <;> simp [rsOf]
      simp only [RS.open_, e1]
      rw [decide_eq_true hn]
      cases rows <;> simp [rsOf]
  rw [if_neg (by simpa using c1), if_neg c1]
  by_cases c3 : c = 93
  · subst c3
    rw [if_pos rfl, if_neg (by decide), if_pos rfl]
    cases rows with
    | nil => simp [rsOf, RS.close]
    | cons row rest =>
      cases cur with
      | some d =>
        have e : (rsOf ⟨row :: rest, some d⟩).close = RS.item ⟨rest, true, []⟩ (.tuple (row ++ [d])) := by simp [rsOf, RS.close]
        rw [e]
        cases rest <;> simp [rsOf, RS.item]
      | none =>
        cases row with
        | cons e row => simp [rsOf, RS.close]
        | nil =>
          have e : (rsOf ⟨[] :: rest, none⟩).close = RS.item ⟨rest, true, []⟩ (.tuple []) := by simp [rsOf, RS.close]
          rw [e]
          cases rest <;> simp [rsOf, RS.item]
  rw [if_neg (by simpa using c3)]
  have c2 : c = 44 := by
    simp only [isBrk, Bool.or_eq_true, beq_iff_eq] at hc
    omega
  subst c2
  rw [if_pos rfl, if_pos rfl]
  cases cur with
  | none => simp [rsOf, RS.comma]
  | some d => cases rows <;> simp [rsOf, RS.comma]
theorem takes_app (s : RS) (a b : List (List Nat)) : takes s (a ++ b) = (takes s a).bind fun s' => takes s' b := by
  induction a generalizing s with
  | nil => rfl
  | cons p a ih =>
    show (s.take p).bind (fun s' => takes s' (a ++ b)) = ((s.take p).bind fun s' => takes s' a).bind fun s' => takes s' b
    cases s.take p with
    | none => rfl
    | some s' => exact ih s'
theorem token_rows {s s1 : LS} {tok : List Nat} (e : s.token tok = some s1) : s1.rows = s.rows := by
  unfold LS.token at e
  split at e
  · cases e; rfl
  · split at e
    · split at e
      · cases e; rfl
      · cases e
    · cases e
theorem sign_rows {s s1 : LS} {c : Nat} (e : s.sign c = some s1) : s1.rows.length ≤ s.rows.length + (if c = 91 then 1 else 0) := by
  obtain ⟨rows, cur⟩ := s
  unfold LS.sign at e
  simp only at e
  split at e
  · rename_i h
    split at e
    · cases e; simp [h]
    · cases e
  · split at e
    · cases cur with
      | none => cases e
      | some d => cases rows with
        | nil => cases e
        | cons row rest => cases e; simp
    · split at e
      · cases rows with
        | nil => cases e
        | cons row rest =>
          simp only at e
          split at e
          · cases e
          · cases e; simp; omega
      · cases e; simp
theorem sim : ∀ (l : List Nat) (s : LS) (tok : List Nat), (∀ c ∈ tok, isEnd c = false) → 59 ∉ l → s.rows.length + l.count 91 < 1000 → takes (rsOf s) (pcs tok l) = (s.run tok (l ++ [59])).map rsOf
  | [], s, tok, ht, _, _ => by
    rw [pcs_nil, rs_token s tok ht]
    show _ = (if isEnd 59 then (s.token tok).bind fun s1 => (s1.sign 59).bind fun s2 => s2.run [] [] else _).map rsOf
    rw [if_pos (show isEnd 59 = true from rfl)]
    cases s.token tok with
    | none => rfl
    | some s1 => rfl
  | c :: l, s, tok, ht, h59, hn => by
    have h59' : 59 ∉ l := fun h => h59 (List.mem_cons_of_mem _ h)
    have hc59 : c ≠ 59 := fun h => h59 (h ▸ List.mem_cons_self ..)
    have eE : isEnd c = isBrk c := by simp [isEnd, hc59]
    have erun : s.run tok (c :: l ++ [59]) = if isEnd c then (s.token tok).bind fun s1 => (s1.sign c).bind fun s2 => s2.run [] (l ++ [59]) else s.run (tok ++ [c]) (l ++ [59]) := rfl
    rw [pcs_cons, erun, eE]
    have hcnt : (c :: l).count 91 = l.count 91 + (if c = 91 then 1 else 0) := by rw [List.count_cons]; simp
    rw [hcnt] at hn
    by_cases hb : isBrk c = true
    · rw [if_pos hb, if_pos hb, takes_app, rs_token s tok ht]
      cases et : s.token tok with
      | none => rfl
      | some s1 =>
        simp only [Option.map_some, Option.bind_some]
        show ((rsOf s1).take [c]).bind (fun s' => takes s' (pcs [] l)) = _
        have er := token_rows et
        rw [rs_sign s1 hb (by rw [er]; omega)]
        cases es : s1.sign c with
        | none => rfl
        | some s2 =>
          simp only [Option.map_some, Option.bind_some]
          have := sign_rows es
          rw [er] at this
          exact sim l s2 [] (fun _ h => nomatch h) h59' (by omega)
    · rw [if_neg hb, if_neg hb]
      refine sim l s (tok ++ [c]) (fun d hd => ?_) h59' (by split at hn <;> omega)
      rcases List.mem_append.mp hd with hd | hd
      · exact ht d hd
      · rw [List.mem_singleton.mp hd, eE]
        simpa using hb
theorem read_eq {l : List Nat} (h59 : 59 ∉ l) (hn : l.count 91 < 1000) : readR l = lrd l := by
  unfold readR lrd
  have e := sim l ⟨[], none⟩ [] (fun _ h => nomatch h) h59 (by simpa using hn)
  rw [show rsOf ⟨[], none⟩ = ⟨[], true, []⟩ from rfl] at e
  rw [e]
  cases LS.run ⟨[], none⟩ [] (l ++ [59]) with
  | none => rfl
  | some s =>
    obtain ⟨rows, cur⟩ := s
    cases rows with
    | cons row rest => cases cur <;> rfl
    | nil =>
      cases cur with
      | none => rfl
      | some d =>
        simp only [if_neg h59]
        rfl
/-! ### what is written is read -/
mutual
/-- leaves that are read as they are written -/
def canon : PyData → Prop
  | .tuple ds => canons ds
  | .str z => atomR (strD (.str z)) = some (.str z) ∧ (strD (.str z) ≠ []) ∧ ∀ c ∈ strD (.str z), isEnd c = false
  | .int i => atomR (strD (.int i)) = some (.int i) ∧ (strD (.int i) ≠ []) ∧ ∀ c ∈ strD (.int i), isEnd c = false
  | _ => False
def canons : List PyData → Prop
  | [] => True
  | d :: ds => canon d ∧ canons ds
end
theorem run_chars : ∀ (l tok : List Nat) (s : LS) (r : List Nat), (∀ c ∈ l, isEnd c = false) → s.run tok (l ++ r) = s.run (tok ++ l) r
  | [], tok, s, r, _ => by rw [List.append_nil]; rfl
  | c :: l, tok, s, r, h => by
    have e : s.run tok (c :: l ++ r) = if isEnd c then (s.token tok).bind fun s1 => (s1.sign c).bind fun s2 => s2.run [] (l ++ r) else s.run (tok ++ [c]) (l ++ r) := rfl
    rw [e, if_neg (by rw [h c (List.mem_cons_self ..)]; decide), run_chars l _ s r fun d hd => h d (List.mem_cons_of_mem _ hd)]
    simp
theorem run_end (s : LS) (tok : List Nat) (e : Nat) (r : List Nat) (he : isEnd e = true) : s.run tok (e :: r) = (s.token tok).bind fun s1 => (s1.sign e).bind fun s2 => s2.run [] r := by
  show (if isEnd e then _ else _) = _
  rw [if_pos he]
theorem run_leaf {d : PyData} {tok : List Nat} {rows : List (List PyData)} {e : Nat} {r : List Nat} (ha : atomR tok = some d) (h0 : tok ≠ []) (hc : ∀ c ∈ tok, isEnd c = false) (he : isEnd e = true) : LS.run ⟨rows, none⟩ [] (tok ++ e :: r) = LS.run ⟨rows, some d⟩ [] (e :: r) := by
  rw [run_chars tok [] _ _ hc, List.nil_append, run_end _ _ _ _ he, run_end _ _ _ _ he]
  have e1 : LS.token ⟨rows, none⟩ tok = some ⟨rows, some d⟩ := by
    unfold LS.token
    rw [if_neg h0, ha]
    rfl
  rw [e1]
  rfl
mutual
theorem run_data : ∀ (d : PyData) (rows : List (List PyData)) (e : Nat) (r : List Nat), canon d → isEnd e = true → LS.run ⟨rows, none⟩ [] (wT d ++ e :: r) = LS.run ⟨rows, some d⟩ [] (e :: r)
  | .str z, rows, e, r, h, he => by
    simp only [canon] at h
    have : wT (.str z) = strD (.str z) := by simp only [wT]
    rw [this]
    exact run_leaf h.1 h.2.1 h.2.2 he
  | .int i, rows, e, r, h, he => by
    simp only [canon] at h
    have : wT (.int i) = strD (.int i) := by simp only [wT]
    rw [this]
    exact run_leaf h.1 h.2.1 h.2.2 he
  | .tuple ds, rows, e, r, h, he => by
    simp only [canon] at h
    have : wT (.tuple ds) = 91 :: (wTs ds ++ [93]) := by simp only [wT]
    rw [this]
    have e1 : 91 :: (wTs ds ++ [93]) ++ e :: r = 91 :: (wTs ds ++ 93 :: (e :: r)) := by simp
    rw [e1, run_end _ _ _ _ (show isEnd 91 = true from rfl)]
    have e2 : ((LS.token ⟨rows, none⟩ []).bind fun s1 => (s1.sign 91).bind fun s2 => s2.run [] (wTs ds ++ 93 :: (e :: r))) = LS.run ⟨[] :: rows, none⟩ [] (wTs ds ++ 93 :: (e :: r)) := rfl
    rw [e2, run_list ds [] rows (e :: r) h (.inr rfl)]
    rfl
  | .none, _, _, _, h, _ => by simp [canon] at h
  | .bool _, _, _, _, h, _ => by simp [canon] at h
  | .list _, _, _, _, h, _ => by simp [canon] at h
  | .dict _, _, _, _, h, _ => by simp [canon] at h
theorem run_list : ∀ (ds pre : List PyData) (rows : List (List PyData)) (r : List Nat), canons ds → (ds ≠ [] ∨ pre = []) → LS.run ⟨pre :: rows, none⟩ [] (wTs ds ++ 93 :: r) = LS.run ⟨rows, some (.tuple (pre ++ ds))⟩ [] r
  | [], pre, rows, r, _, hp => by
    have hp : pre = [] := hp.resolve_left (fun h => h rfl)
    subst hp
    have : wTs [] = [] := by simp only [wTs]
    rw [this, List.nil_append, run_end _ _ _ _ (show isEnd 93 = true from rfl)]
    rfl
  | d :: ds, pre, rows, r, h, _ => by
    simp only [canons] at h
    rw [wTs_cons]
    cases ds with
    | nil =>
      rw [if_pos (show ([] : List PyData).isEmpty = true from rfl), run_data d (pre :: rows) 93 r h.1 rfl, run_end _ _ _ _ (show isEnd 93 = true from rfl)]
      rfl
    | cons e es =>
      rw [if_neg (by simp), List.append_assoc, List.cons_append, run_data d (pre :: rows) 44 _ h.1 rfl, run_end _ _ _ _ (show isEnd 44 = true from rfl)]
      have e2 : ((LS.token ⟨pre :: rows, some d⟩ []).bind fun s1 => (s1.sign 44).bind fun s2 => s2.run [] (wTs (e :: es) ++ 93 :: r)) = LS.run ⟨(pre ++ [d]) :: rows, none⟩ [] (wTs (e :: es) ++ 93 :: r) := rfl
      rw [e2, run_list (e :: es) (pre ++ [d]) rows r h.2 (.inl (by simp))]
      simp
end
theorem lrd_written {d : PyData} (h : canon d) (h59 : 59 ∉ wT d) : lrd (wT d) = some d := by
  unfold lrd
  rw [run_data d [] 59 [] h rfl, run_end _ _ _ _ (show isEnd 59 = true from rfl)]
  show (if 59 ∈ wT d then none else some d) = some d
  rw [if_neg h59]
/-! ### what is read is written so -/
def fin : Nat → List Nat → Nat
  | t, [] => t
  | t, c :: l => fin (if isEnd c then 0 else t + 1) l
theorem runs_app {M : Nat} : ∀ {a b : List Nat} {t : Nat}, runs M t (a ++ b) ↔ runs M t a ∧ runs M (fin t a) b
  | [], b, t => ⟨fun h => ⟨by cases b with | nil => exact h | cons c b => exact h.1, h⟩, fun h => h.2⟩
  | c :: a, b, t => ⟨fun h => ⟨⟨h.1, (runs_app.mp h.2).1⟩, (runs_app.mp h.2).2⟩, fun h => ⟨h.1.1, runs_app.mpr ⟨h.1.2, h.2⟩⟩⟩
theorem runs_fin {M : Nat} : ∀ {a : List Nat} {t : Nat}, runs M t a → fin t a ≤ M
  | [], t, h => h
  | c :: a, t, h => runs_fin (a := a) h.2
theorem runs_chars {M : Nat} : ∀ {a : List Nat} {t : Nat}, t + a.length ≤ M → runs M t a
  | [], t, h => h
  | c :: a, t, h => ⟨by rw [List.length_cons] at h; omega, by
    rw [List.length_cons] at h
    by_cases e : isEnd c = true
    · rw [if_pos e]; exact runs_chars (by omega)
    · rw [if_neg e]; exact runs_chars (by omega)⟩
theorem fin_le : ∀ (a : List Nat) (t : Nat), fin t a ≤ t + a.length
  | [], t => Nat.le_refl _
  | c :: a, t => by
    show fin (if isEnd c then 0 else t + 1) a ≤ _
    have := fin_le a (if isEnd c then 0 else t + 1)
    rw [List.length_cons]
    split at this <;> split <;> simp_all <;> omega
/-- a text with one sign put in, taken out or changed -/
theorem wd_plain : ∀ (n k : Nat) (d : PyData), plainD n d = true → k + n ≤ 1001 → wD k d = some (wT d)
  | 0, k, d, h, _ => by cases d <;> simp [plainD] at h
  | n + 1, k, .str z, h, _ => by
    have h' : leafOk (.str z) = true := by simpa only [plainD] using h
    have : wordD (.str z) = true := h'
    simp only [wD, wT, this, Bool.true_or, if_true]
  | n + 1, k, .int i, h, _ => by
    have h' : shortI i = true := (Bool.and_eq_true_iff.mp (show (shortI i && _) = true by simpa only [plainD, leafOk] using h)).1
    have : shortD (.int i) = true := h'
    simp only [wD, wT, this, Bool.or_true, if_true]
  | n + 1, k, .tuple ds, h, hk => by
    simp only [plainD] at h
    have ih : ∀ (es : List PyData), plainDs n es = true → wDs (k + 1) es = some (wTs es) := by
      intro es
      induction es with
      | nil => intro _; simp only [wDs, wTs]
      | cons e es ih =>
        intro he
        simp only [plainDs, Bool.and_eq_true] at he
        simp only [wDs, wTs, wd_plain n (k + 1) e he.1 (by omega), Option.bind_some, ih he.2]
        split <;> simp
    simp only [wD, wT]
    rw [if_pos (by omega), ih ds h]
    rfl
  | n + 1, k, .none, h, _ => by simp [plainD] at h
  | n + 1, k, .bool _, h, _ => by simp [plainD] at h
  | n + 1, k, .list _, h, _ => by simp [plainD] at h
  | n + 1, k, .dict _, h, _ => by simp [plainD] at h
def leafB (d : PyData) : Bool := leafOk d && decide (strD d ≠ []) && (strD d).all (fun c => !isEnd c) && decide ((strD d).length ≤ 41) && (match atomR (strD d), d with
  | some (.str a), .str b => a == b
  | some (.int a), .int b => a == b
  | _, _ => false)
theorem words_ok : ([S [97], S [120, 57]].all fun z => leafB (.str z)) = true := by decide +kernel
theorem ints_ok : ([(0 : Int), -5, 1000].all fun i => leafB (.int i)) = true := by decide +kernel
def cb : Nat → Nat
  | 0 => 0
  | n + 1 => 3 * cb n + 1
def lb : Nat → Nat
  | 0 => 41
  | n + 1 => 3 * lb n + 5
theorem lb_ge (n : Nat) : 41 ≤ lb n := by
  induction n with
  | zero => exact Nat.le_refl _
  | succ n ih => simp only [lb]; omega
/-- what the law needs of a drawn datum -/
structure Good (n : Nat) (d : PyData) : Prop where
  pl : plainD (n + 1) d = true
  ca : canon d
  ne : 1 ≤ (wT d).length
  ct : (wT d).count 91 ≤ cb n
  ln : (wT d).length ≤ lb n
  ru : ∀ e r, isEnd e = true → runs 41 0 (e :: r) → runs 41 0 (wT d ++ e :: r)
  no : 59 ∉ wT d
theorem leafB_atom {d : PyData} (h : leafB d = true) : atomR (strD d) = some d := by
  simp only [leafB, Bool.and_eq_true] at h
  have h5 := h.2
  cases ha : atomR (strD d) with
  | none => rw [ha] at h5; cases h5
  | some a =>
    rw [ha] at h5
    cases a <;> cases d <;> simp_all
theorem leaf_good {n : Nat} {d : PyData} (hw : wT d = strD d) (hc : canon d = (atomR (strD d) = some d ∧ (strD d ≠ []) ∧ ∀ c ∈ strD d, isEnd c = false)) (hp : plainD (n + 1) d = leafOk d) (h : leafB d = true) : Good n d := by
  have ha := leafB_atom h
  simp only [leafB, Bool.and_eq_true, decide_eq_true_eq] at h
  obtain ⟨⟨⟨⟨h1, h2⟩, h3⟩, h4⟩, _⟩ := h
  have h3' : ∀ c ∈ strD d, isEnd c = false := fun c hc => by
    have := List.all_eq_true.mp h3 c hc
    simpa using this
  refine ⟨hp.trans h1, by rw [hc]; exact ⟨ha, h2, h3'⟩, ?_, ?_, by rw [hw]; exact Nat.le_trans h4 (lb_ge n), ?_, ?_⟩
  · rw [hw]
    exact List.length_pos_iff.mpr h2
  · rw [hw, List.count_eq_zero.mpr (fun hm => by have := h3' 91 hm; cases this)]
    exact Nat.zero_le _
  · intro e r he hr
    rw [hw]
    refine runs_app.mpr ⟨runs_chars (by omega), ?_⟩
    have f := fin_le (strD d) 0
    have hr2 : 0 ≤ 41 ∧ runs 41 (if isEnd e then 0 else 0 + 1) r := hr
    refine ⟨by omega, ?_⟩
    have hr3 := hr2.2
    rw [if_pos he] at hr3 ⊢
    exact hr3
  · rw [hw]
    intro hm
    have := h3' 59 hm
    cases this
theorem goods {n : Nat} : ∀ (ds : List PyData), (∀ d ∈ ds, Good n d) → plainDs (n + 1) ds = true ∧ canons ds ∧ (wTs ds).count 91 ≤ ds.length * cb n ∧ (wTs ds).length ≤ ds.length * (lb n + 1) ∧ (∀ r, runs 41 0 (93 :: r) → runs 41 0 (wTs ds ++ 93 :: r)) ∧ 59 ∉ wTs ds
  | [], _ => by
    have e : wTs [] = [] := by simp only [wTs]
    rw [e]
    exact ⟨by simp only [plainDs], by simp only [canons], by simp, by simp, fun r h => h, by simp⟩
  | d :: ds, h => by
    have g := h d (List.mem_cons_self ..)
    obtain ⟨i1, i2, i3, i4, i5, i6⟩ := goods ds fun e he => h e (List.mem_cons_of_mem _ he)
    refine ⟨by simp only [plainDs, g.pl, i1, Bool.and_self], by simp only [canons]; exact ⟨g.ca, i2⟩, ?_, ?_, ?_, ?_⟩
    · rw [wTs_cons, List.length_cons, Nat.succ_mul]
      have := g.ct
      split
      · omega
      · rw [List.count_append, List.count_cons]
        simp
        omega
    · rw [wTs_cons, List.length_cons, Nat.succ_mul]
      have := g.ln
      split
      · omega
      · rw [List.length_append, List.length_cons]
        omega
    · intro r hr
      rw [wTs_cons]
      split
      · exact g.ru 93 r rfl hr
      · rw [List.append_assoc, List.cons_append]
        refine g.ru 44 _ rfl ⟨Nat.zero_le _, ?_⟩
        rw [if_pos (show isEnd 44 = true from rfl)]
        exact i5 r hr
    · rw [wTs_cons]
      split
      · exact g.no
      · intro hm
        rcases List.mem_append.mp hm with hm | hm
        · exact g.no hm
        · rcases List.mem_cons.mp hm with hm | hm
          · cases hm
          · exact i6 hm
theorem gen_good {n : Nat} {d : PyData} (h : Gen n d) : Good n d := by
  induction h with
  | @word n z hz =>
    have := List.all_eq_true.mp words_ok z hz
    exact leaf_good (by simp only [wT]) (by simp only [canon]) (by simp only [plainD]) this
  | @int n i hi =>
    have := List.all_eq_true.mp ints_ok i hi
    exact leaf_good (by simp only [wT]) (by simp only [canon]) (by simp only [plainD]) this
  | @tup n ds hl _ ih =>
    obtain ⟨i1, i2, i3, i4, i5, i6⟩ := goods ds ih
    have e : wT (.tuple ds) = 91 :: (wTs ds ++ [93]) := by simp only [wT]
    have m1 : ds.length * cb n ≤ 3 * cb n := Nat.mul_le_mul_right _ (by omega)
    have m2 : ds.length * (lb n + 1) ≤ 3 * (lb n + 1) := Nat.mul_le_mul_right _ (by omega)
    refine ⟨by simp only [plainD]; exact i1, by simp only [canon]; exact i2, ?_, ?_, ?_, ?_, ?_⟩
    · rw [e]; simp
    · rw [e]
      simp only [cb, List.count_cons, List.count_append, List.count_nil]
      simp
      omega
    · rw [e]
      simp only [lb, List.length_cons, List.length_append, List.length_nil]
      omega
    · intro r0 r hr0 hr
      rw [e]
      have e1 : 91 :: (wTs ds ++ [93]) ++ r0 :: r = 91 :: (wTs ds ++ 93 :: (r0 :: r)) := by simp
      rw [e1]
      refine ⟨Nat.zero_le _, ?_⟩
      rw [if_pos (show isEnd 91 = true from rfl)]
      refine i5 _ ⟨Nat.zero_le _, ?_⟩
      rw [if_pos (show isEnd 93 = true from rfl)]
      exact hr
    · rw [e]
      intro hm
      rcases List.mem_cons.mp hm with hm | hm
      · cases hm
      · rcases List.mem_append.mp hm with hm | hm
        · exact i6 hm
        · simp at hm
end WW

set_option maxHeartbeats 4000000
namespace WW
open PySem PySem.Spec PyProof.Rows L2
local macro_rules | `(tactic| walk_at "x") => `(tactic| simp only [tSeq, tNext, tAsg, gName, tRet, tRetN, tIfS, tOp, tUn, rI, rI0, rU, tTest, tB, tAnd, tOr, tNot, tAndV, tOrV, tNotV, tIf, tCons, tNil, tTup, tLst, tCall, tCallS, tMeth, tMake, tFld, sFld, tBM, tBM0, tCB, tSl, tPart, tNoPart, tDrop, tPar, tPar3, tAug, ipI, gTup, gCons, gNil, gSub, rSetL, rAppend, rPop, rIxL, rIxS, rIxT, rEq, rNe, tChain, tNever, tThen, tVar, tC, L2.start, List.map_cons, List.map_nil, List.length_cons, List.length_nil, List.replicate_succ, List.replicate_zero, List.append_nil, List.nil_append, List.cons_append, Nat.reduceAdd, Nat.reduceSub, Nat.add_zero, Nat.zero_add, Nat.sub_zero, Nat.sub_self,
  List.getElem?_cons_zero, List.getElem?_cons_succ, Option.some.injEq, exists_eq_left', exists_eq_left, exists_eq', exists_eq, exists_and_left, List.set_cons_zero, List.set_cons_succ, V.int.injEq, V.bl.injEq, V.str.injEq, V.ref.injEq, V.ty.injEq, List.cons.injEq, and_true, true_and, and_assoc, if_true, if_false, Bool.false_eq_true, reduceCtorEq, false_and, and_false, exists_false, false_or, or_false, Bool.not_true, Bool.not_false, decide_eq_true_eq, ite_true, ite_false, WE, cxOf_K, cxOf_mg, rSlS, scal, wipe, mem_low, mem_dig, mem_brk, mem_brk4, sgn_inj, Bool.decide_eq_true])

/-! ### drawn data -/
theorem cb_le : ∀ n, n ≤ 4 → cb n ≤ 40 := by decide
theorem lb_le : ∀ n, n ≤ 4 → lb n ≤ 3600 := by decide
theorem gen_wd {n : Nat} {d : PyData} (h : Gen n d) (hn : n ≤ 4) : wD 1 d = some (wT d) := wd_plain (n + 1) 1 d (gen_good h).pl (by omega)
theorem gen_len {n : Nat} {d : PyData} (h : Gen n d) (hn : n ≤ 4) : (wT d).length ≤ 3600 := Nat.le_trans (gen_good h).ln (lb_le n hn)
theorem gen_rd {n : Nat} {d : PyData} (h : Gen n d) (hn : n ≤ 4) : readD (.str (S (wT d))) = some d := by
  have g := gen_good h
  show readR (wT d) = some d
  rw [read_eq g.no (Nat.lt_of_le_of_lt g.ct (Nat.lt_of_le_of_lt (cb_le n hn) (by decide)))]
  exact lrd_written g.ca g.no
def sb : Nat → Nat
  | 0 => 1
  | n + 1 => 2 * sb n + 5
theorem smallDs_of : ∀ ds : List PyData, (∀ d ∈ ds, smallD d = true) → smallDs ds = true
  | [], _ => rfl
  | d :: ds, h => by
    simp only [smallDs, Bool.and_eq_true]
    exact ⟨h d (List.mem_cons_self ..), smallDs_of ds fun e he => h e (List.mem_cons_of_mem _ he)⟩
theorem szDs_of {b : Nat} : ∀ ds : List PyData, (∀ d ∈ ds, szD d ≤ b) → szDs ds ≤ ds.length * (b + 1)
  | [], _ => by simp [szDs]
  | d :: ds, h => by
    have i1 := h d (List.mem_cons_self ..)
    have i2 := szDs_of ds fun e he => h e (List.mem_cons_of_mem _ he)
    simp only [szDs, List.length_cons, Nat.succ_mul]
    omega
theorem gen_small {n : Nat} {d : PyData} (h : Gen n d) : smallD d = true ∧ szD d ≤ sb n := by
  induction h with
  | @word n z hz =>
    refine ⟨?_, ?_⟩
    · simp only [List.mem_cons, List.not_mem_nil, or_false] at hz
      rcases hz with rfl | rfl <;> decide
    · have : ∀ n, 1 ≤ sb n := fun n => by cases n <;> simp only [sb] <;> omega
      simpa only [szD] using this n
  | @int n i hi =>
    refine ⟨rfl, ?_⟩
    have : ∀ n, 1 ≤ sb n := fun n => by cases n <;> simp only [sb] <;> omega
    simpa only [szD] using this n
  | @tup n ds hl _ ih =>
    have a1 := smallDs_of ds fun d hd => (ih d hd).1
    have a2 := szDs_of (b := sb n) ds fun d hd => (ih d hd).2
    have a3 : ds.length * (sb n + 1) ≤ 2 * (sb n + 1) := Nat.mul_le_mul_right _ hl
    exact ⟨by simpa only [smallD] using a1, by simp only [szD, sb]; omega⟩
theorem sb_le : ∀ n, n ≤ 4 → sb n ≤ 100 := by decide
def spData (K : PySem.W.Frag) (n : Nat) : Sp := fun vs H Q _ => ∃ (dr cs : Addr) (k : Nat), vs = [.ref dr, .int (k : Nat)] ∧ k < n ∧ Dr H dr cs ∧ ∀ v d H', Gen k d → Dp K H' v d → Kp dr cs H H' → Q v H'
section
variable {P : Program} {w : World} {K : PySem.W.Frag} {mg : Str → Option Value} {base : Heap}
theorem data_step (n : Nat) (W : Wd fa fn K mg) (o__law_data : OkF P w K mg base d__law_data (n + 1) ["draw", "deep"] (spData K n)) : OkF P w K mg base d__law_data (n + 1 + 1) ["draw", "deep"] (spData K (n + 1)) := by
  have o__law_take := (o__law_take (P := P) (w := w) (base := base) W).mono (show 1 ≤ n + 1 by omega)
  obtain ⟨fd__law_take, F__law_take, b__law_take, k__law_take⟩ := o__law_take.ex
  obtain ⟨fd__law_data, F__law_data, b__law_data, k__law_data⟩ := o__law_data.ex
  refine okfN true W (d := d__law_data) 22 sc__law_data rfl rfl (fun _ _ _ _ _ _ us hl => match us, hl with | [_, _], _ => rfl) ?len (fun cdv A outer s H vs Q E hr nd hu tk bo h => ?body)
  case len =>
    rintro vs H Q E ⟨_, _, _, rfl, _⟩
    rfl
  case body =>
    have po := bo.po; refine ⟨_, (pss_cons (ps_if (PW.pt (pw_and (pt_cmpR op_gt (pv 1) pe_int (nomark _)) (pw_and1 (pt_cmpR op_eq (by exact (pe_callS F__law_take (hr.mono (by first | decide | omega)) rfl (W.glo 40) k__law_take b__law_take (fun σ => passAt tk σ) (by exact (pa_cons (pv 0) (pa_cons pe_int pa_nil))))) pe_int (nomark _))))) (pss_one (ps_ret (pe_callTy call_tuple_of (by rfl) (W.free 4) (by decide +kernel) (pa_cons (pe_lc (own := [("turn", 2)]) (g := (gName 2)) (tt := tYes) rfl nd (pi_range1 rfl (W.free 13) (pa_cons (by exact (pe_callS F__law_take (hr.mono (by first | decide | omega)) rfl (W.glo 40) k__law_take b__law_take (fun σ => passAt tk σ) (by exact (pa_cons (pv 0) (pa_cons pe_int pa_nil))))) pa_nil)) (blkOk_by (own := [("turn", 2)]) (N := ["draw", "deep", "turn"]) (sc := defScope s__law_data) (by decide +kernel)) (fun _ _ _ _ _ => (pg_name (i := 2) nd rfl (by first | exact Or.inl rfl | exact Or.inr rfl))) (fun _ _ _ _ _ => pts_nil) (fun _ _ _ _ _ => (pe_call F__law_data (hr.mono (by first | decide | omega)) rfl (W.glo 41) k__law_data b__law_data .nil passL (pa_cons (pv 0) (pa_cons (pe_op op_sub (pv 1) pe_int) pa_nil))))) pa_nil)))) pss_nil)
    (pss_one (ps_ret (pe_ix ix_list (pe_lst (pa_cons pe_str (pa_cons pe_str (pa_cons pe_int (pa_cons (pe_un un_neg pe_int) (pa_cons pe_int pa_nil)))))) (by exact (pe_callS F__law_take (hr.mono (by first | decide | omega)) rfl (W.glo 40) k__law_take b__law_take (fun σ => passAt tk σ) (by exact (pa_cons (pv 0) (pa_cons pe_int pa_nil))))) (fun _ _ => rfl))))), ?_⟩
    obtain ⟨dr, cs, k, rfl, hk, hD, hq⟩ := h
    clear tk po bo
    walk_at "x"
    have leaf : ∀ H1 (E' : XK), Kp dr cs H H1 → 5 ≤ sizeLine ∧ ∀ (p : Addr), H1 p = none → spTake1 [V.ref dr, V.int 5] (upd H1 p (HO.lst [V.str (Str.ofString "a"), V.str (Str.ofString "x9"), V.int 0, V.int (-5), V.int 1000])) (fun y H2 => ∃ x x_1, y = V.int x_1 ∧ SqL K H2 p x ∧ ∃ x_2, atI x x_1 = some x_2 ∧ Q x_2 H2) E' := by
      intro H1 E' kp
      refine ⟨by decide, fun p hp => ?_⟩
      have kp2 := kp.new (o := HO.lst [V.str (Str.ofString "a"), V.str (Str.ofString "x9"), V.int 0, V.int (-5), V.int 1000]) hp
      refine ⟨dr, cs, 5, rfl, by decide, by decide, kp2.2, fun a H2 ha fr2 hD2 => ?_⟩
      have kp3 := kp2.trans (Kp.of fr2 hD2)
      have np : p ≠ dr := fun e => by
        obtain ⟨ns, p1, q1, sd, g, _, _⟩ := kp.2
        rw [e, g.d] at hp
        cases hp
      have hL : SqL K H2 p [V.str (Str.ofString "a"), V.str (Str.ofString "x9"), V.int 0, V.int (-5), V.int 1000] := SqL.of (by rw [fr2 p np, upd_same])
      have ha' : a < 5 := by omega
      have ea : Str.ofString "a" = S [97] := by decide +kernel
      have ex9 : Str.ofString "x9" = S [120, 57] := by decide +kernel
      rw [ea, ex9] at hL
      match a, ha' with
      | 0, _ => exact ⟨_, _, rfl, hL, _, atI_nat (j := 0) rfl, hq _ (.str _) _ (.word (by simp)) (.str _) kp3⟩
      | 1, _ => exact ⟨_, _, rfl, hL, _, atI_nat (j := 1) rfl, hq _ (.str _) _ (.word (by simp)) (.str _) kp3⟩
      | 2, _ => exact ⟨_, _, rfl, hL, _, atI_nat (j := 2) rfl, hq _ (.int _) _ (.int (by simp)) (.int _) kp3⟩
      | 3, _ => exact ⟨_, _, rfl, hL, _, atI_nat (j := 3) rfl, hq _ (.int _) _ (.int (by simp)) (.int _) kp3⟩
      | 4, _ => exact ⟨_, _, rfl, hL, _, atI_nat (j := 4) rfl, hq _ (.int _) _ (.int (by simp)) (.int _) kp3⟩
    by_cases hk0 : 0 < k
    · refine iteT' (by omega) ⟨dr, cs, 2, rfl, by decide, by decide, hD, fun m H1 hm fr hD1 => ⟨rfl, ?_⟩⟩
      have kp1 := Kp.of fr hD1
      by_cases h3 : m = 0
      · refine iteT' (by rw [h3]; rfl) ?_
        have hI : ∀ R : It → Hp → Prop, (∀ (a : Nat) H2, a < 3 → Kp dr cs H1 H2 → R (Itr 0 a) H2) → iRng1 (tCons (tCallS spTake1 (WE fun cls dd x H => E cls dd H) (tCons (tVar 0) (tCons (tC (V.int 3)) tNil))) tNil) [some (V.ref dr), some (V.int (k : Nat)), none] H1 R := by
          intro R hR
          simp only [iRng1]
          walk_at "x"
          refine ⟨dr, cs, 3, rfl, by decide, by decide, hD1, fun a H2 ha fr2 hD2 => ⟨_, rfl, by omega, by omega, ?_⟩⟩
          rw [Int.toNat_natCast]
          exact hR a H2 (by omega) (Kp.of fr2 hD2)
        unfold tLc
        refine hI _ fun a H2 ha kp2 => fun D hDn => ?_
        have kp02 := kp1.trans kp2
        obtain ⟨k', rfl⟩ : ∃ k', k = k' + 1 := ⟨k - 1, by omega⟩
        refine lc_it (walk_range (lo := 0) (n := a)) (fun i H' => Kp dr cs H2 H' ∧ ∃ vs ds, H' D = some (.lst vs) ∧ DpAll K H' vs ds ∧ vs.length = i ∧ ds.length = i ∧ ∀ d ∈ ds, Gen k' d) ⟨Kp.new (Kp.refl kp2.2) hDn, [], [], upd_same, .nil, rfl, rfl, fun _ h => nomatch h⟩ (fun _ _ _ _ => trivial) ?_ ?_
        · rintro i x H3 H4 hi ⟨kp3, vs, ds, hv, hvd, hvl, hdl, hg⟩ ⟨rfl, rfl⟩
          walk_at "x"
          have nD : D ≠ dr := fun e => by
            obtain ⟨ns, p1, q1, sd, g, _, _⟩ := kp2.2
            rw [e, g.d] at hDn
            cases hDn
          refine ⟨dr, cs, k', ?_, by omega, kp3.2, fun v d H5 hgd hvd5 kp5 => ?_⟩
          · rw [show (((k' + 1 : Nat) : Int) - 1) = ((k' : Nat) : Int) by omega]
          have hv5 := kp5.1 D _ nD hv
          have t5 := Kp.tx kp3.2 kp5
          have tU : Tx H5 (upd H5 D (.lst (vs ++ [v]))) := Tx.up hv5 noTup_l
          refine ⟨vs, hv5, by rw [hvl, sizeLine_eq]; omega, (kp3.trans kp5).mut kp2.2 hDn, vs ++ [v], upd_same, ds ++ [d], ?_, by simp [hvl], by simp [hdl], fun e he => ?_⟩
          · exact DpAll.app (DpAll.tx (t5.trans tU) (immAllG ds fun e he => (hg e he).imm) hvd) (.cons (Dp.tx tU _ _ hgd.imm hvd5) .nil)
          · rcases List.mem_append.mp he with he | he
            · exact hg e he
            · rw [List.mem_singleton.mp he]; exact hgd
        · rintro H3 ⟨kp3, vs, ds, hv, hvd, hvl, hdl, hg⟩
          refine ⟨D, rfl, vs, .inl ⟨SqL.of hv, fun l hl => ?_⟩⟩
          exact hq _ (.tuple ds) _ (.tup (by omega) hg) (.tup (SqT.of upd_same) (DpAll.tx (Tx.nw hl) (immAllG ds fun e he => (hg e he).imm) hvd)) ((kp02.trans kp3).new hl)
      · exact iteF' (by simp only [V.int.injEq]; omega) (leaf H1 _ kp1)
    · exact iteF' (by omega) (leaf H _ (Kp.refl hD))
theorem o__law_data (W : Wd fa fn K mg) : ∀ n, OkF P w K mg base d__law_data (n + 1) ["draw", "deep"] (spData K n) := by
  intro n
  induction n with
  | zero =>
    refine okfN true W (d := d__law_data) 22 sc__law_data rfl rfl (fun _ _ _ _ _ _ us hl => match us, hl with | [_, _], _ => rfl) ?len (fun cdv A outer s H vs Q E hr nd hu tk bo h => ?body)
    case len =>
      rintro vs H Q E ⟨_, _, _, rfl, _⟩
      rfl
    case body =>
      obtain ⟨_, _, k, _, hk, _⟩ := h
      exact absurd hk (Nat.not_lt_zero _)
  | succ n ih => exact data_step n W ih
end
end WW

set_option maxHeartbeats 4000000
namespace WW
open PySem PySem.Spec PyProof.Rows L2
local macro_rules | `(tactic| walk_at "x") => `(tactic| simp only [tSeq, tNext, tAsg, gName, tRet, tRetN, tIfS, tOp, tUn, rI, rI0, rU, tTest, tB, tAnd, tOr, tNot, tAndV, tOrV, tNotV, tIf, tCons, tNil, tTup, tLst, tCall, tCallS, tMeth, tMake, tFld, sFld, tBM, tBM0, tCB, tSl, tPart, tNoPart, tDrop, tPar, tPar3, tAug, ipI, gTup, gCons, gNil, gSub, rSetL, rAppend, rPop, rIxL, rIxS, rIxT, rEq, rNe, tChain, tNever, tThen, tVar, tC, L2.start, List.map_cons, List.map_nil, List.length_cons, List.length_nil, List.replicate_succ, List.replicate_zero, List.append_nil, List.nil_append, List.cons_append, Nat.reduceAdd, Nat.reduceSub, Nat.add_zero, Nat.zero_add, Nat.sub_zero, Nat.sub_self,
  List.getElem?_cons_zero, List.getElem?_cons_succ, Option.some.injEq, exists_eq_left', exists_eq_left, exists_eq', exists_eq, exists_and_left, List.set_cons_zero, List.set_cons_succ, V.int.injEq, V.bl.injEq, V.str.injEq, V.ref.injEq, V.ty.injEq, List.cons.injEq, and_true, true_and, and_assoc, if_true, if_false, Bool.false_eq_true, reduceCtorEq, false_and, and_false, exists_false, false_or, or_false, Bool.not_true, Bool.not_false, decide_eq_true_eq, ite_true, ite_false, WE, cxOf_K, cxOf_mg, rSlS, scal, wipe, mem_low, mem_dig, mem_brk, mem_brk4, sgn_inj, Bool.decide_eq_true])

/-! ### what a read datum is -/
theorem word_ok {l : List Nat} (h : wordL l = true) : PyData.strOk (S l) = true := by
  unfold PyData.strOk
  rw [← Array.all_toList, List.all_eq_true]
  intro c hc
  simp only [wordL, Bool.and_eq_true] at h
  have := List.all_eq_true.mp h.2 c hc
  simp only [isLow, isDig, Bool.or_eq_true, Bool.and_eq_true, decide_eq_true_eq] at this
  rw [decide_eq_true_eq]
  omega
theorem atom_lay {l : List Nat} {a : PyData} (h : atomR l = some a) : a.canLay0 = true ∧ szD a = 1 := by
  unfold atomR at h
  split at h
  · rename_i hw
    cases h
    exact ⟨by simpa only [PyData.canLay0] using word_ok hw, rfl⟩
  · cases hw : wholeL l with
    | none => rw [hw] at h; cases h
    | some i => rw [hw] at h; cases h; exact ⟨rfl, rfl⟩
theorem canLay_app (a b : List PyData) : PyData.canLayAll0 (a ++ b) = (PyData.canLayAll0 a && PyData.canLayAll0 b) := by
  induction a with
  | nil => simp [PyData.canLayAll0]
  | cons x a ih => simp [PyData.canLayAll0, ih, Bool.and_assoc]
theorem szDs_app (a b : List PyData) : szDs (a ++ b) = szDs a + szDs b := by
  induction a with
  | nil => simp [szDs]
  | cons x a ih => simp [szDs, ih]; omega
def RS.sz (s : RS) : Nat := (s.rows.map fun r => szDs r + 3).sum + szDs s.told
def RS.lay (s : RS) : Prop := (∀ row ∈ s.rows, PyData.canLayAll0 row = true) ∧ PyData.canLayAll0 s.told = true
theorem RS.item_ok {s s' : RS} {d : PyData} (e : s.item d = some s') (h : s.lay) (hd : d.canLay0 = true) : s'.lay ∧ s'.sz = s.sz + szD d + 1 := by
  obtain ⟨rows, ready, told⟩ := s
  obtain ⟨h1, h2⟩ := h
  simp only at h1 h2
  unfold RS.item at e
  simp only at e
  split at e
  · cases rows with
    | nil =>
      cases e
      exact ⟨⟨fun _ h => (nomatch h), by simp only [canLay_app, h2, PyData.canLayAll0, hd, Bool.and_self]⟩, by simp only [RS.sz, szDs_app, szDs, List.map_nil, List.sum_nil]; omega⟩
    | cons row rest =>
      cases e
      refine ⟨⟨fun r hr => ?_, h2⟩, by simp only [RS.sz, szDs_app, szDs, List.map_cons, List.sum_cons]; omega⟩
      rcases List.mem_cons.mp hr with rfl | hr
      · simp only [canLay_app, h1 row (List.mem_cons_self ..), PyData.canLayAll0, hd, Bool.and_self]
      · exact h1 r (List.mem_cons_of_mem _ hr)
  · cases e
theorem RS.take_ok {s s' : RS} {p : List Nat} (e : s.take p = some s') (h : s.lay) : s'.lay ∧ s'.sz ≤ s.sz + 3 := by
  unfold RS.take at e
  split at e
  · unfold RS.open_ at e
    split at e
    · cases e
      exact ⟨⟨fun r hr => by rcases List.mem_cons.mp hr with rfl | hr; rfl; exact h.1 r hr, h.2⟩, by simp only [RS.sz, szDs, List.map_cons, List.sum_cons]; omega⟩
    · cases e
  split at e
  · unfold RS.close at e
    obtain ⟨rows, ready, told⟩ := s
    simp only at e
    cases rows with
    | nil => cases e
    | cons row rest =>
      simp only at e
      split at e
      · cases e
      · obtain ⟨i1, i2⟩ := RS.item_ok e ⟨fun r hr => h.1 r (List.mem_cons_of_mem _ hr), h.2⟩ (by simpa only [PyData.canLay0] using h.1 row (List.mem_cons_self ..))
        refine ⟨i1, ?_⟩
        rw [i2]
        simp only [RS.sz, szD, List.map_cons, List.sum_cons]
        omega
  split at e
  · unfold RS.comma at e
    split at e
    · cases e
    · cases e; exact ⟨h, by simp only [RS.sz]; omega⟩
  · obtain ⟨a, ha, e⟩ := Option.bind_eq_some_iff.mp e
    obtain ⟨l1, l2⟩ := atom_lay ha
    obtain ⟨i1, i2⟩ := RS.item_ok e h l1
    exact ⟨i1, by omega⟩
theorem takes_ok : ∀ (ps : List (List Nat)) (s s' : RS), takes s ps = some s' → s.lay → s'.lay ∧ s'.sz ≤ s.sz + 3 * ps.length
  | [], s, s', e, h => by cases e; exact ⟨h, by omega⟩
  | p :: ps, s, s', e, h => by
    obtain ⟨s1, e1, e2⟩ := Option.bind_eq_some_iff.mp (show (s.take p).bind (fun s' => takes s' ps) = some s' from e)
    obtain ⟨h1, z1⟩ := RS.take_ok e1 h
    obtain ⟨h2, z2⟩ := takes_ok ps s1 s' e2 h1
    exact ⟨h2, by rw [List.length_cons]; omega⟩
theorem readD_ok {z : Str} {d : PyData} (h : readD (.str z) = some d) : d.canLay0 = true ∧ szD d ≤ 6 * z.length := by
  have h : doneR (takes ⟨[], true, []⟩ (pcs [] z.cps.toList)) = some d := h
  cases ht : takes ⟨[], true, []⟩ (pcs [] z.cps.toList) with
  | none => rw [ht] at h; cases h
  | some s' =>
    rw [ht] at h
    obtain ⟨h1, h2⟩ := takes_ok _ _ _ ht ⟨fun _ h => (nomatch h), rfl⟩
    have pl := pcs_len z.cps.toList
    have el : z.length = z.cps.toList.length := rfl
    obtain ⟨rows, ready, told⟩ := s'
    match rows, told, h, h1, h2 with
    | [], [e], h, h1, h2 =>
      cases h
      have a := h1.2
      simp only [PyData.canLayAll0, Bool.and_true] at a
      simp only [RS.sz, szDs, List.map_nil, List.sum_nil] at h2
      exact ⟨a, by omega⟩
def spLWord (K : PySem.W.Frag) : Sp := fun vs H Q _ => ∃ z : Str, vs = [.str z] ∧ z.length ≤ 100000 ∧ ∀ H', Same H H' → Q (.bl (wordL z.cps.toList)) H'
def spLRead (K : PySem.W.Frag) : Sp := fun vs H Q _ => ∃ z : Str, vs = [.str z] ∧ z.length ≤ 50000 ∧ (match readD (.str z) with
  | some d => ∀ p v H', Same H H' → H p = none → H' p = some (.lst [v]) → Dp K H' v d → imm d = true → Q (.ref p) H'
  | none => ∀ p H', Same H H' → H p = none → H' p = some (.lst []) → Q (.ref p) H')
/-- a triple that is due -/
def EntD (K : PySem.W.Frag) (H : Hp) (v : V) (x y d : PyData) : Prop := ∃ a u w k t, v = .ref a ∧ SqT K H a [.str u, .str k, .str t, w] ∧ x = .str u ∧ y = .tuple [.str k, .str t] ∧ Dp K H w d ∧ imm d = true
theorem EntD.tx {K : PySem.W.Frag} {H H' : Hp} {v : V} {x y d : PyData} (t : Tx H H') (h : EntD K H v x y d) : EntD K H' v x y d := by
  obtain ⟨a, u, w, k, c, rfl, h1, rfl, rfl, h3, i2⟩ := h
  exact ⟨a, u, w, k, c, rfl, t.sqt h1, rfl, rfl, Dp.tx t _ _ i2 h3, i2⟩
/-- what stands in the list part -/
def PartD (K : PySem.W.Frag) (H : Hp) (y : Option V) (ds : List PyData) (i : Nat) : Prop := (i % 3 = 0 ∧ ∃ v, y = some v) ∨ (i % 3 = 1 ∧ ∃ a u x, y = some (.ref a) ∧ H a = some (.lst [.str u]) ∧ x = .str u ∧ ds[i - 1]? = some x) ∨ (i % 3 = 2 ∧ ∃ a u k t x, y = some (.ref a) ∧ H a = some (.lst [.str u, .str k, .str t]) ∧ x = .str u ∧ ds[i - 2]? = some x ∧ ds[i - 1]? = some (.tuple [.str k, .str t]))
/-- the loop's state -/
def duInv (K : PySem.W.Frag) (H0 : Hp) (z : Str) (L f : Addr) (I : List (List Nat)) (i : Nat) (σ : L2.St) (H : Hp) : Prop := ∃ (ds : List PyData) (vs : List V) (y3 y4 y5 y6 y7 y8 y9 y10 : Option V), σ = [some (.str z), some (.ref L), some (.ref f), y3, y4, y5, y6, y7, y8, y9, y10] ∧ Same H0 H ∧ H f = some (.lst vs) ∧ H0 f = none ∧
  PartD K H y3 ds i ∧ vs.length = i / 3 ∧ (∀ (j : Nat) v, vs[j]? = some v → ∃ x y d, ds[3 * j]? = some x ∧ ds[3 * j + 1]? = some y ∧ ds[3 * j + 2]? = some d ∧ EntD K H v x y d) ∧ ds.length = i ∧ parts 0 I = (match parts i (I.drop i) with
    | .inl m => .inl m
    | .inr es => .inr (ds ++ es))
def spLDue (K : PySem.W.Frag) : Sp := fun vs H Q _ => ∃ z : Str, vs = [.str z] ∧ z.length ≤ 20000 ∧ (match diaryL z.cps.toList with
  | .inl n => ∀ H', Same H H' → Q (.int (n : Nat)) H'
  | .inr ds => ∀ p vs H', Same H H' → H p = none → H' p = some (.lst vs) → 3 * vs.length = ds.length → (∀ (j : Nat) v, vs[j]? = some v → ∃ x y d, ds[3 * j]? = some x ∧ ds[3 * j + 1]? = some y ∧ ds[3 * j + 2]? = some d ∧ EntD K H' v x y d) → Q (.ref p) H')
theorem low_dig : Str.ofString "abcdefghijklmnopqrstuvwxyz" ++ Str.ofString "0123456789" = S (List.range' 97 26 ++ List.range' 48 10) := by decide +kernel
theorem mem_ld (c : Nat) : decide (c ∈ (S (List.range' 97 26 ++ List.range' 48 10)).cps.toList) = (isLow c || isDig c) := by
  rw [tl_S]
  rw [Bool.eq_iff_iff]
  simp only [isLow, isDig, List.mem_append, List.mem_range'_1, decide_eq_true_eq, Bool.or_eq_true, Bool.and_eq_true]
  omega
section
variable {P : Program} {w : World} {K : PySem.W.Frag} {mg : Str → Option Value} {base : Heap}
theorem o__law_is_word (W : Wd fa fn K mg) : OkF P w K mg base d__law_is_word 1 ["value"] (spLWord K) := by
  refine okfN true W (d := d__law_is_word) 23 sc__law_is_word rfl rfl (fun _ _ _ _ _ _ us hl => match us, hl with | [_], _ => rfl) ?len (fun cdv A outer s H vs Q E hr nd hu tk bo h => ?body)
  case len =>
    rintro vs H Q E ⟨_, rfl, _⟩
    rfl
  case body =>
    have po := bo.po; refine ⟨_, (pss_cons (ps_set (i := 1) nd rfl (by first | exact Or.inl rfl | exact Or.inr rfl) pe_str)
    (pss_one (ps_ret (pe_and (pe_chain op_lt op_lt pe_int (pe_callB call_len (by rfl) (W.free 3) (by decide +kernel) (pa_cons (pv 0) pa_nil)) pe_int) (pe_and (pe_cmpR op_in_sign (pe_ix ix_str (pv 0) pe_int (fun _ _ => rfl)) (pv 1) (by rfl)) (pe_one (pe_callB (cr_all rfl) (by rfl) (W.free 7) (by decide +kernel) (pa_cons (pe_lc (own := [("sign", 2)]) (g := (gName 2)) (tt := tYes) rfl nd (pi_str (pv 0)) (blkOk_by (own := [("sign", 2)]) (N := ["value", "small", "sign"]) (sc := defScope s__law_is_word) (by decide +kernel)) (fun _ _ _ _ _ => (pg_name (i := 2) nd rfl (by first | exact Or.inl rfl | exact Or.inr rfl))) (fun _ _ _ _ _ => pts_nil) (fun _ _ _ _ _ => (pe_cmpR op_in_sign (pv 2) (pe_op op_add_str (pv 1) pe_str) (by rfl)))) pa_nil)))))))), ?_⟩
    obtain ⟨z, rfl, hz, hq⟩ := h
    clear tk po bo
    walk_at "x"
    have szl := sizeLine_eq
    refine ⟨z.length, ⟨by omega, rfl⟩, ?_⟩
    have el : z.length = z.cps.toList.length := rfl
    have same0 := hq _ (Same.refl _)
    cases hl : z.cps.toList with
    | nil =>
      rw [hl, List.length_nil] at el
      refine iteF' (by omega) ?_
      simpa [hl, wordL] using same0
    | cons c0 r =>
      rw [hl] at el same0
      refine iteT' (by rw [el, List.length_cons]; omega) ?_
      by_cases h12 : (z.length : Int) < 13
      · refine iteT' h12 ⟨by omega, c0, atI_nat (j := 0) rfl, ?_⟩
        cases h0 : isLow c0 with
        | false =>
          refine iteF' (by simp) ?_
          simpa [wordL, h0] using same0
        | true =>
          refine iteT' rfl ?_
          refine tLc_str (f := fun c => .bl (isLow c || isDig c)) (z := z) (by omega) (fun R h => by walk_at "x"; exact h) (fun x => rfl) ?_ ?_
          · intro c H2 R hR
            walk_at "x"
            rw [low_dig, mem_ld]
            exact ⟨by rw [szl]; decide +kernel, hR⟩
          · intro D hD
            refine ⟨D, z.cps.toList.map fun c => isLow c || isDig c, rfl, SqL.of (by rw [upd_same, List.map_map]; rfl), ?_⟩
            have := hq _ (Same.new (o := .lst (z.cps.toList.map fun c => .bl (isLow c || isDig c))) hD)
            have e3 : wordL z.cps.toList = ((z.cps.toList.map fun c => isLow c || isDig c).all id) := by
              rw [hl]
              simp only [wordL, h0, List.length_cons, List.all_map]
              have a1 : decide (1 ≤ r.length + 1) = true := decide_eq_true (by omega)
              have a2 : decide (r.length + 1 ≤ 12) = true := decide_eq_true (by rw [el, List.length_cons] at h12; omega)
              rw [a1, a2]
              rfl
            rw [e3] at this
            exact this
      · refine iteF' h12 ?_
        have e4 : wordL (c0 :: r) = false := by
          have : decide ((c0 :: r).length ≤ 12) = false := decide_eq_false (by rw [← el]; omega)
          simp only [wordL, this, Bool.and_false, Bool.false_and]
        rw [e4] at same0
        exact same0
theorem o__law_read (W : Wd fa fn K mg) : OkF P w K mg base d__law_read 5 ["text"] (spLRead K) := by
  have o_read_data := (o_read_data (P := P) (w := w) (base := base) W).mono (show 4 ≤ 4 by decide)
  obtain ⟨fd_read_data, F_read_data, b_read_data, k_read_data⟩ := o_read_data.ex
  refine okfN true W (d := d__law_read) 24 sc__law_read rfl rfl (fun _ _ _ _ _ _ us hl => match us, hl with | [_], _ => rfl) ?len (fun cdv A outer s H vs Q E hr nd hu tk bo h => ?body)
  case len =>
    rintro vs H Q E ⟨_, rfl, _⟩
    rfl
  case body =>
    have po := bo.po; refine ⟨_, (pss_one (ps_try_only (m := true) rfl rfl ⟨rfl, by decide, .inl (W.glo 19)⟩ tk (fun _ _ _ tk po => (pss_one (ps_ret (pe_lst (pa_cons (by exact (pe_callS F_read_data (hr.mono (by first | decide | omega)) rfl (W.glo 36) k_read_data b_read_data (fun σ => passAt tk σ) (by exact (pa_cons (pv 0) pa_nil)))) pa_nil))))) (fun a oe cls d pn hz hf => (pss_one (ps_ret (pe_lst pa_nil)))))), ?_⟩
    obtain ⟨z, rfl, hz, hq⟩ := h
    clear tk po bo
    have ex := W.exm (x := "Malformed") (y := "Malformed") (b := true) 54
    walk_at "x"
    refine ⟨.str z, .str z, rfl, .str z, fun y e => by cases e; exact hz, ?_⟩
    cases hd : readD (.str z) with
    | none =>
      rw [hd] at hq
      intro H1 s1 y t ht
      refine ⟨true, ex, fun _ a ha => ?_, fun q => nomatch q⟩
      walk_at "x"
      have st := Same.trans s1 (Same.new (o := .tup [.str y]) ht)
      exact ⟨by omega, fun p hp => hq p _ (Same.trans st (Same.new hp)) (st.free hp) upd_same⟩
    | some d =>
      rw [hd] at hq
      intro v H1 s1 hv hi
      refine ⟨by decide, fun p hp => ?_⟩
      exact hq p v _ (Same.trans s1 (Same.new hp)) (s1.free hp) upd_same (Dp.tx (Tx.nw hp) _ _ hi hv) hi
theorem o__law_due (W : Wd fa fn K mg) : OkF P w K mg base d__law_due 6 ["text"] (spLDue K) := by
  have o__law_is_word := (o__law_is_word (P := P) (w := w) (base := base) W).mono (show 1 ≤ 5 by decide)
  have o__law_read := (o__law_read (P := P) (w := w) (base := base) W).mono (show 5 ≤ 5 by decide)
  obtain ⟨fd__law_is_word, F__law_is_word, b__law_is_word, k__law_is_word⟩ := o__law_is_word.ex; obtain ⟨fd__law_read, F__law_read, b__law_read, k__law_read⟩ := o__law_read.ex
  refine okfN true W (d := d__law_due) 25 sc__law_due rfl rfl (fun _ _ _ _ _ _ us hl => match us, hl with | [_], _ => rfl) ?len (fun cdv A outer s H vs Q E hr nd hu tk bo h => ?body)
  case len =>
    rintro vs H Q E ⟨_, rfl, _⟩
    rfl
  case body =>
    have po := bo.po; refine ⟨_, (pss_cons (ps_par3 (i := 1) (j := 2) (l := 3) (by rfl) nd rfl rfl rfl (by decide) (by decide) (by decide) rfl rfl rfl (pa_cons (pe_bm PySem.F.plainAttrs_str PySem.F.slot_str_split PySem.F.type_str_split mt_split (pv 0) (pa_cons pe_str pa_nil)) (pa_cons (pe_lst pa_nil) (pa_cons (pe_lst pa_nil) pa_nil))) (by rfl))
    (pss_cons (ps_for po rfl (pi_range1 rfl (W.free 13) (pa_cons (pe_op op_sub (pe_callB call_len (by rfl) (W.free 3) (by decide +kernel) (pa_cons (pv 1) pa_nil)) pe_int) pa_nil)) (pg_name (i := 4) nd rfl (by first | exact Or.inl rfl | exact Or.inr rfl))
      (pss_cons (ps_par (i := 5) (j := 6) (by rfl) nd rfl rfl (by decide) rfl rfl (pa_cons (pe_ix ix_list (pv 1) (pv 4) (fun _ _ => rfl)) (pa_cons (pe_op op_mod (pe_callTy call_int1 (by rfl) (W.free 2) (by decide +kernel) (pa_cons (pv 4) pa_nil)) pe_int) pa_nil)) (by rfl))
    (pss_cons (ps_if (pt_cmpR op_ne (pe_slice sl_str (pv 5) po_none (po_some pe_int)) (pe_ix ix_list (pe_lst (pa_cons pe_str (pa_cons pe_str (pa_cons pe_str pa_nil)))) (pv 6) (fun _ _ => rfl)) (nomark _)) (pss_one (ps_ret (pe_op op_add (pv 4) pe_int))) pss_nil)
    (pss_one (ps_if (pt_cmpR op_eq (pv 6) pe_int (nomark _)) (pss_one (ps_set (i := 3) nd rfl (by first | exact Or.inl rfl | exact Or.inr rfl) (pe_lst (pa_cons (pe_slice sl_str (pv 5) (po_some pe_int) po_none) pa_nil)))) (pss_one (ps_if (pt_cmpR op_eq (pv 6) pe_int (nomark _)) (pss_cons (ps_asg (pe_bm PySem.F.plainAttrs_str PySem.F.slot_str_partition PySem.F.type_str_partition mt_partition (pe_slice sl_str (pv 5) (po_some pe_int) po_none) (pa_cons pe_str pa_nil)) (pg_tup rfl (pgs_cons (pg_name (i := 7) nd rfl (by first | exact Or.inl rfl | exact Or.inr rfl)) (pgs_cons (pg_name (i := 8) nd rfl (by first | exact Or.inl rfl | exact Or.inr rfl)) (pgs_cons (pg_name (i := 9) nd rfl (by first | exact Or.inl rfl | exact Or.inr rfl)) pgs_nil)))))
    (pss_cons (ps_if (PW.pt (pw_or (pt_cmpR op_eq (pv 8) pe_str (nomark _)) (pw_or1 (pt_not (pt_val (by exact (pe_callS F__law_is_word (hr.mono (by first | decide | omega)) rfl (W.glo 42) k__law_is_word b__law_is_word (fun σ => passAt tk σ) (by exact (pa_cons (pv 7) pa_nil))))))))) (pss_one (ps_ret (pe_op op_add (pv 4) pe_int))) pss_nil)
    (pss_one (ps_set (i := 3) nd rfl (by first | exact Or.inl rfl | exact Or.inr rfl) (pe_op op_cat (pv 3) (pe_lst (pa_cons (pv 7) (pa_cons (pv 9) pa_nil)))))))) (pss_cons (ps_set (i := 10) nd rfl (by first | exact Or.inl rfl | exact Or.inr rfl) (by exact (pe_callS F__law_read (hr.mono (by first | decide | omega)) rfl (W.glo 43) k__law_read b__law_read (fun σ => passAt tk σ) (by exact (pa_cons (pe_slice sl_str (pv 5) (po_some pe_int) po_none) pa_nil)))))
    (pss_cons (ps_if (PW.pt (pw_or (pt_cmpR (op_eqW hr.units) (pv 10) (pe_lst pa_nil) (nomark _)) (pw_or1 (pt_not (pt_val (pe_callB call_isiV (by rfl) (W.free 0) (by decide +kernel) (pa_cons (pe_ix ix_list (pv 10) pe_int (fun _ _ => rfl)) (pa_cons (pe_bltn (v := .ty "tuple") (u := .type "tuple") rfl (W.free 4) (by decide +kernel) rfl) pa_nil)))))))) (pss_one (ps_ret (pe_op op_add (pv 4) pe_int))) pss_nil)
    (pss_one (ps_expr (pe_bm PySem.F.plainAttrs_list PySem.F.slot_list_append PySem.F.type_list_append mt_append (pv 2) (pa_cons (pe_callTy call_tuple_of (by rfl) (W.free 4) (by decide +kernel) (pa_cons (pe_op op_cat (pv 3) (pv 10)) pa_nil)) pa_nil)))))))))))))
    (pss_one (ps_ret (pe_ifExp (PW.pt (pw_and (pt_cmpR op_eq (pe_ix ix_list (pv 1) (pe_un un_neg pe_int) (fun _ _ => rfl)) pe_str (nomark _)) (pw_and1 (pt_cmpR op_eq (pe_op op_mod (pe_callTy call_int1 (by rfl) (W.free 2) (by decide +kernel) (pa_cons (pe_op op_sub (pe_callB call_len (by rfl) (W.free 3) (by decide +kernel) (pa_cons (pv 1) pa_nil)) pe_int) pa_nil)) pe_int) pe_int (nomark _))))) (pv 2) (pe_callB call_len (by rfl) (W.free 3) (by decide +kernel) (pa_cons (pv 1) pa_nil))))))), ?_⟩
    obtain ⟨z, rfl, hz, hq⟩ := h
    clear tk po bo
    walk_at "x"
    have szl := sizeLine_eq
    have el : z.length = z.cps.toList.length := rfl
    refine ⟨rfl, by decide +kernel, by omega, ?_⟩
    have es := SX.split_S (a := z.cps.toList) (b := [10]) (by simp) (by decide)
    rw [nl_lit, show Txt.split z (S [10]) = (rowsL z.cps.toList).map S from es]
    unfold diaryL at hq
    obtain ⟨hlen, hcnt⟩ := spl_lens [10] 0 [] z.cps.toList
    have hne := rowsL_ne z.cps.toList
    generalize hR : rowsL z.cps.toList = R at hq hne
    rw [show TL.spl [10] 0 [] z.cps.toList = R from hR] at hlen hcnt
    obtain ⟨I, e, rfl⟩ : ∃ I e, R = I ++ [e] := ⟨R.dropLast, R.getLast hne, (List.dropLast_concat_getLast hne).symm⟩
    rw [List.dropLast_concat] at hq
    intro L hL
    refine ⟨by decide, fun f hf => ⟨by decide, fun p hp => ?_⟩⟩
    generalize hH1 : upd H L (.lst (((I ++ [e]).map S).map V.str)) = H1 at hf hp
    have sm1 : Same H H1 := by rw [← hH1]; exact Same.new hL
    have hL1 : H1 L = some (.lst (((I ++ [e]).map S).map V.str)) := by rw [← hH1, upd_same]
    have lI : I.length ≤ 20000 := by simp only [List.length_append, List.length_singleton] at hcnt; omega
    have npf : f ≠ p := fun e => by rw [e, upd_same] at hp; cases hp
    rw [upd_ne npf.symm] at hp
    have sm2 : Same H1 (upd (upd H1 f (.lst [])) p (.lst [])) := Same.trans (Same.new hf) (Same.new (by rw [upd_ne npf.symm]; exact hp))
    refine tFor_of (walk_range (lo := 0) (n := I.length)) (H1 := upd (upd H1 f (.lst [])) p (.lst [])) ?_ (duInv K H1 z L f I) ?_ (fun _ _ _ _ _ => trivial) ?_ ?_
    · intro R hR
      simp only [iRng1]
      walk_at "x"
      have l1 : ((((I ++ [e]).map S).map V.str).length : Int) - 1 = (I.length : Int) := by simp
      refine ⟨_, .inl ⟨_, SqL.of (sm2 _ _ hL1), rfl⟩, by omega, by omega, ?_⟩
      rw [l1, Int.toNat_natCast]
      exact hR
    · exact ⟨[], [], _, _, _, _, _, _, _, _, rfl, sm2, by rw [upd_ne npf, upd_same], hf, .inl ⟨rfl, _, rfl⟩, rfl, (fun _ _ h => nomatch h), rfl, by rw [List.drop_zero]; cases parts 0 I <;> rfl⟩
    · rintro i v σ H2 H3 hi ⟨ds, vs, y3, y4, y5, y6, y7, y8, y9, y10, rfl, sm, bf, h0f, hpd, hvl, hent, hl, hpar⟩ ⟨rfl, rfl⟩
      have hI : I[i]? = some I[i] := List.getElem?_eq_getElem hi
      rw [drop_at hI] at hpar
      simp only [parts] at hpar
      walk_at "x"
      have hli : (((I ++ [e]).map S).map V.str)[i]? = some (.str (S I[i])) := by
        rw [List.getElem?_map, List.getElem?_map, List.getElem?_append_left hi, hI]
        rfl
      simp only [Int.zero_add, show ((i : Int) % 3) = ((i % 3 : Nat) : Int) from rfl]
      have hle : I[i].length ≤ 20000 := by
        have := hlen I[i] (List.mem_append_left _ (List.getElem_mem hi))
        simp only [List.length_nil] at this
        omega
      generalize I[i] = l at hli hpar hle
      have e1 := cut_to (S l) 2
      have e2 := cut_from (S l) 2
      rw [show ((2 : Nat) : Int) = 2 from rfl, tl_S] at e1 e2
      have hm : ([V.str (Str.ofString "> "), V.str (Str.ofString "= "), V.str (Str.ofString "# ")] : List V)[i % 3]? = some (.str (S (markL (i % 3)))) := by
        have := Nat.mod_lt i (show 0 < 3 by decide)
        match i % 3, this with
        | 0, _ => rw [show markL 0 = [62, 32] from rfl, ← m0_lit]; rfl
        | 1, _ => rw [show markL 1 = [61, 32] from rfl, ← m1_lit]; rfl
        | 2, _ => rw [show markL 2 = [35, 32] from rfl, ← m2_lit]; rfl
      have bad : ∀ H4, Same H3 H4 → partL (i % 3) l = none → Q (V.int ((i : Int) + 1)) H4 := by
        intro H4 s4 hp
        rw [hp] at hpar
        simp only at hpar
        rw [hpar] at hq
        rw [show ((i : Int) + 1) = ((i + 1 : Nat) : Int) by omega]
        exact hq _ (Same.trans sm1 (Same.trans sm s4))
      have good : ∀ d, partL (i % 3) l = some d → parts 0 I = (match parts (i + 1) (I.drop (i + 1)) with
          | .inl m => .inl m
          | .inr es => .inr ((ds ++ [d]) ++ es)) := by
        intro d hp
        rw [hp] at hpar
        simp only at hpar
        rw [hpar]
        cases parts (i + 1) (I.drop (i + 1)) <;> simp
      have gapp : ∀ {k : Nat} {x : PyData} (d : PyData), ds[k]? = some x → (ds ++ [d])[k]? = some x := by
        intro k x d h
        rw [List.getElem?_append_left (by have := (List.getElem?_eq_some_iff.mp h).1; exact this)]
        exact h
      have glast : ∀ d : PyData, (ds ++ [d])[i]? = some d := by
        intro d
        rw [← hl]
        simp
      have hent' : ∀ {H4} (d : PyData), Tx H3 H4 → ∀ (j : Nat) v, vs[j]? = some v → ∃ x y d', (ds ++ [d])[3 * j]? = some x ∧ (ds ++ [d])[3 * j + 1]? = some y ∧ (ds ++ [d])[3 * j + 2]? = some d' ∧ EntD K H4 v x y d' := by
        intro H4 d t j v hv
        obtain ⟨x, y, d', c1, c2, c3, c4⟩ := hent j v hv
        exact ⟨x, y, d', gapp d c1, gapp d c2, gapp d c3, c4.tx t⟩
      refine ⟨_, SqL.of (sm _ _ hL1), _, atI_nat hli, by decide, S l, rfl, by rw [len_S]; omega, by omega, fun p hp => ⟨_, SqL.of upd_same, _, atI_nat hm, rfl, ?_⟩⟩
      generalize hH4 : upd H3 p (.lst [V.str (Str.ofString "> "), V.str (Str.ofString "= "), V.str (Str.ofString "# ")]) = H4
      have s4 : Same H3 H4 := by rw [← hH4]; exact Same.new hp
      rw [e1]
      by_cases hmk : l.take 2 = markL (i % 3)
      · refine iteF' (by rw [hmk]; simp) ?_
        by_cases c0 : i % 3 = 0
        · have hpl : partL (i % 3) l = some (.str (S (l.drop 2))) := by
            unfold partL
            rw [if_pos hmk, if_pos c0]
          refine iteT' (by omega) ⟨S l, rfl, by rw [len_S]; omega, by omega, fun p1 hp1 => ?_⟩
          have s5 := Same.trans s4 (Same.new (o := .lst [V.str (cutS (S l) (some 2) none)]) hp1)
          refine ⟨ds ++ [.str (S (l.drop 2))], vs, _, _, _, _, _, _, _, _, rfl, Same.trans sm s5, s5 _ _ bf, h0f, .inr (.inl ⟨by omega, p1, S (l.drop 2), _, rfl, by rw [upd_same, e2], rfl, glast _⟩), by omega, hent' _ (Tx.of s5), by simp [hl], good _ hpl⟩
        · refine iteF' (by omega) ?_
          by_cases c1 : i % 3 = 1
          · refine iteT' (by omega) ⟨S l, rfl, by rw [len_S]; omega, rfl, by decide +kernel, by rw [e2, len_S, List.length_drop]; omega, fun p1 hp1 => ⟨_, SqT.of upd_same, rfl, _, _, rfl, _, _, rfl, _, _, rfl, rfl, rfl, ?_⟩⟩
            simp only [e2, sp_lit, empty_lit]
            generalize hH5 : upd H4 p1 _ = H5
            have s5 : Same H3 H5 := by rw [← hH5]; exact Same.trans s4 (Same.new hp1)
            have hpp : partL (i % 3) l = (kindL (l.drop 2)).map fun q => .tuple [.str (S q.1), .str (S q.2)] := by
              unfold partL
              rw [if_pos hmk, if_neg c0, if_pos c1]
            unfold kindL at hpp
            cases hpar1 : TL.par [32] [] (l.drop 2) with
            | none =>
              have := SX.partition_none (a := l.drop 2) (b := [32]) (by simp) hpar1
              rw [show Txt.partition (S (l.drop 2)) (S [32]) = _ from this]
              rw [hpar1] at hpp
              exact iteT' rfl (bad _ s5 hpp)
            | some q =>
              obtain ⟨a, b⟩ := q
              have := SX.partition_some (a := l.drop 2) (b := [32]) (by simp) hpar1
              rw [show Txt.partition (S (l.drop 2)) (S [32]) = _ from this]
              rw [hpar1] at hpp
              have la := par_len hpar1
              rw [List.length_drop] at la
              refine iteF' (by simp only [V.str.injEq]; exact fun e => by have := S_inj.mp (show S [32] = S [] from e); cases this) ?_
              refine ⟨S a, rfl, by rw [len_S]; simp at la; omega, fun H6 s6 => ⟨_, rfl, ?_⟩⟩
              rw [tl_S]
              simp only [Option.bind_some] at hpp
              have s56 := Same.trans s5 s6
              cases hw : wordL a with
              | false =>
                rw [hw] at hpp
                exact iteT' rfl (bad _ s56 hpp)
              | true =>
                rw [hw] at hpp
                rw [if_pos rfl, Option.map_some] at hpp
                rcases hpd with ⟨c, _⟩ | ⟨_, pa, u, x, rfl, hpa, rfl, hx⟩ | ⟨c, _⟩
                · exact absurd c c0
                · refine iteF' (by simp) ⟨_, rfl, by omega, fun p2 hp2 => ?_⟩
                  have hpa6 : upd H6 p2 (.lst [V.str (S a), V.str (S b)]) pa = some (.lst [.str u]) := Same.trans s56 (Same.new hp2) _ _ hpa
                  refine ⟨pa, p2, _, _, rfl, rfl, hpa6, upd_same, by simp only [List.length_cons, List.length_nil]; omega, fun p3 hp3 => ?_⟩
                  have s7 := Same.trans (Same.trans s56 (Same.new (o := .lst [V.str (S a), V.str (S b)]) hp2)) (Same.new (o := .lst ([V.str u] ++ [V.str (S a), V.str (S b)])) hp3)
                  refine ⟨ds ++ [.tuple [.str (S a), .str (S b)]], vs, _, _, _, _, _, _, _, _, rfl, Same.trans sm s7, s7 _ _ bf, h0f, .inr (.inr ⟨by omega, p3, u, S a, S b, _, rfl, by rw [upd_same]; rfl, rfl, ?_, glast _⟩), by omega, hent' _ (Tx.of s7), by simp [hl], good _ hpp⟩
                  rw [show i + 1 - 2 = i - 1 by omega]
                  exact gapp _ hx
                · omega
          · refine iteF' (by omega) ?_
            have c2 : i % 3 = 2 := by omega
            have hpp : partL (i % 3) l = (readD (.str (S (l.drop 2)))).bind tupleD := by
              unfold partL
              rw [if_pos hmk, if_neg c0, if_neg c1]
            rcases hpd with ⟨c, _⟩ | ⟨c, _⟩ | ⟨_, pa, u, k, t, x, rfl, hpa, rfl, hx, hy⟩
            · omega
            · omega
            refine ⟨S l, rfl, by rw [len_S]; omega, ?_⟩
            rw [e2]
            refine ⟨S (l.drop 2), rfl, by rw [len_S, List.length_drop]; omega, ?_⟩
            cases hd : readD (.str (S (l.drop 2))) with
            | none =>
              rw [hd] at hpp
              intro p1 H5 s5 hf1 h1
              have s35 := Same.trans s4 s5
              refine ⟨by omega, fun p2 hp2 => ⟨.list [], .list [], .lst (SqL.of ((Same.new hp2) _ _ h1)) .nil, .lst (SqL.of upd_same) .nil, rfl, rfl, by decide, _, rfl, iteT' (by simp [PyData.eqv, PyData.eqvAll]) (bad _ (Same.trans s35 (Same.new hp2)) hpp)⟩⟩
            | some d =>
              rw [hd] at hpp
              obtain ⟨lay, _⟩ := readD_ok hd
              intro p1 v H5 s5 hf1 h1 hv him
              have s35 := Same.trans s4 s5
              refine ⟨by omega, fun p2 hp2 => ?_⟩
              have s6 := Same.new (o := .lst []) hp2
              have h16 := s6 _ _ h1
              have s36 := Same.trans s35 s6
              refine ⟨.list [d], .list [], .lst (SqL.of h16) (.cons (Dp.sm s6 _ _ hv) .nil), .lst (SqL.of upd_same) .nil, by simp [PyData.canLay0, PyData.canLayAll0, lay], rfl, Nat.le_trans (Nat.min_le_right _ _) (by decide), _, rfl, iteF' (by simp [PyData.eqv, PyData.eqvAll]) ⟨p1, rfl, _, SqL.of h16, _, atI_nat (j := 0) rfl, v, "tuple", rfl, by decide, _, IsaV.of (Dp.sm s6 _ _ hv), _, rfl, ?_⟩⟩
              simp only [Option.bind_some, tupleD] at hpp
              cases ht : isa d "tuple" with
              | false =>
                rw [ht] at hpp
                exact iteT' rfl (bad _ s36 hpp)
              | true =>
                rw [ht] at hpp
                have bf6 := s36 _ _ bf
                refine iteF' (by simp) ⟨tyLst bf6, _, rfl, pa, p1, _, _, rfl, rfl, s36 _ _ hpa, h16, by simp only [List.length_cons, List.length_nil]; omega, fun p3 hp3 => ⟨p3, rfl, _, .inl ⟨SqL.of upd_same, fun a ha => ?_⟩⟩⟩
                have s37 := Same.trans s36 (Same.new (o := .lst ([.str u, .str k, .str t] ++ [v])) hp3)
                have s38 := Same.trans s37 (Same.new (o := .tup ([.str u, .str k, .str t] ++ [v])) ha)
                have bf8 := s38 _ _ bf
                refine ⟨_, bf8, by omega, ?_⟩
                have tx9 : Tx _ (upd _ f (.lst (vs ++ [.ref a]))) := Tx.up bf8 noTup_l
                have hv8 := Dp.sm (Same.trans (Same.trans s6 (Same.new (o := .lst ([.str u, .str k, .str t] ++ [v])) hp3)) (Same.new (o := .tup ([.str u, .str k, .str t] ++ [v])) ha)) _ _ hv
                refine ⟨ds ++ [d], vs ++ [.ref a], _, _, _, _, _, _, _, _, rfl, Same.mut (Same.trans sm s38) h0f, upd_same, h0f, .inl ⟨by omega, _, rfl⟩, by rw [List.length_append, List.length_singleton]; omega, fun j v' hv' => ?_, by simp [hl], good _ hpp⟩
                rcases Nat.lt_trichotomy j vs.length with h | h | h
                · rw [List.getElem?_append_left h] at hv'
                  exact hent' d ((Tx.of s38).trans tx9) j v' hv'
                · subst h
                  have ev : V.ref a = v' := by simpa using hv'
                  subst ev
                  have i2 : i = 3 * vs.length + 2 := by omega
                  refine ⟨.str u, .tuple [.str k, .str t], d, gapp d (by rw [show 3 * vs.length = i - 2 by omega]; exact hx), gapp d (by rw [show 3 * vs.length + 1 = i - 1 by omega]; exact hy), by rw [← i2]; exact glast d, a, u, v, k, t, rfl, tx9.sqt (SqT.of (by rw [upd_same]; rfl)), rfl, rfl, Dp.tx tx9 _ _ him hv8, him⟩
                · rw [List.getElem?_eq_none (by rw [List.length_append, List.length_singleton]; omega)] at hv'
                  cases hv'
      · have hpl : partL (i % 3) l = none := by
          unfold partL
          rw [if_neg hmk]
        exact iteT' (by simp only [Bool.not_eq_true', decide_eq_false_iff_not, V.str.injEq, S_inj]; exact hmk) (bad _ s4 hpl)
    · rintro σ H' ⟨ds, vs, y3, y4, y5, y6, y7, y8, y9, y10, rfl, sm, bf, h0f, hpd, hvl, hent, hl, hpar⟩
      rw [List.drop_length] at hpar
      simp only [parts, List.append_nil] at hpar
      rw [hpar] at hq
      walk_at "x"
      have hll : atI (((I ++ [e]).map S).map V.str) (-1) = some (.str (S e)) := by
        rw [List.map_append, List.map_append]
        exact atI_last _ _
      have hlast : (I ++ [e]).getLast? = some e := by simp
      rw [hlast] at hq
      simp only at hq
      have ln : LenV K (V.ref L) H' (I.length + 1) := .inl ⟨_, SqL.of (sm _ _ hL1), by simp⟩
      refine ⟨_, SqL.of (sm _ _ hL1), _, hll, rfl, ?_⟩
      have row : (∀ H1, Same H H1 → Q (.int ((ds.length + 1 : Nat) : Int)) H1) → ∃ x, LenV K (V.ref L) H' x ∧ Q (V.int x) H' := by
        intro hb
        refine ⟨_, ln, ?_⟩
        rw [← hl]
        exact hb _ (Same.trans sm1 sm)
      by_cases he : e = []
      · refine iteT' (by rw [he, empty_lit]) ⟨_, ln, by decide, ?_⟩
        by_cases h3 : ds.length % 3 = 0
        · rw [if_pos ⟨congrArg some he, h3⟩] at hq
          refine iteT' (by omega) ?_
          exact hq f vs H' (Same.trans sm1 sm) (sm1.free h0f) bf (by omega) hent
        · rw [if_neg (fun h => h3 h.2)] at hq
          exact iteF' (by omega) (row hq)
      · rw [if_neg (fun h => he (Option.some.inj h.1))] at hq
        exact iteF' (by rw [empty_lit]; simp only [V.str.injEq, S_inj]; simpa using he) (row hq)
end
end WW

set_option maxHeartbeats 4000000
namespace WW
open PySem PySem.Spec PyProof.Rows L2
local macro_rules | `(tactic| walk_at "x") => `(tactic| simp only [tSeq, tNext, tAsg, gName, tRet, tRetN, tIfS, tOp, tUn, rI, rI0, rU, tTest, tB, tAnd, tOr, tNot, tAndV, tOrV, tNotV, tIf, tCons, tNil, tTup, tLst, tCall, tCallS, tMeth, tMake, tFld, sFld, tBM, tBM0, tCB, tSl, tPart, tNoPart, tDrop, tPar, tPar3, tAug, ipI, gTup, gCons, gNil, gSub, rSetL, rAppend, rPop, rIxL, rIxS, rIxT, rEq, rNe, tChain, tNever, tThen, tVar, tC, L2.start, List.map_cons, List.map_nil, List.length_cons, List.length_nil, List.replicate_succ, List.replicate_zero, List.append_nil, List.nil_append, List.cons_append, Nat.reduceAdd, Nat.reduceSub, Nat.add_zero, Nat.zero_add, Nat.sub_zero, Nat.sub_self,
  List.getElem?_cons_zero, List.getElem?_cons_succ, Option.some.injEq, exists_eq_left', exists_eq_left, exists_eq', exists_eq, exists_and_left, List.set_cons_zero, List.set_cons_succ, V.int.injEq, V.bl.injEq, V.str.injEq, V.ref.injEq, V.ty.injEq, List.cons.injEq, and_true, true_and, and_assoc, if_true, if_false, Bool.false_eq_true, reduceCtorEq, false_and, and_false, exists_false, false_or, or_false, Bool.not_true, Bool.not_false, decide_eq_true_eq, ite_true, ite_false, WE, cxOf_K, cxOf_mg, rSlS, scal, wipe, mem_low, mem_dig, mem_brk, mem_brk4, sgn_inj, Bool.decide_eq_true])

def ang (z : Str) : Str := Str.ofString "<" ++ z ++ Str.ofString ">"
/-- entries, as they lie -/
def EntsV (K : PySem.W.Frag) (H : Hp) (x : V) (es : List EV) : Prop := ∃ a xs, x = .ref a ∧ SqL K H a xs ∧ xs.length = es.length ∧ (∀ (i : Nat) v, xs[i]? = some v → ∃ e, es[i]? = some e ∧ EvV K H v e) ∧ (∀ e ∈ es, smE e) ∧ es.length ≤ 20
/-- the triples as entries -/
def EntsG (K : PySem.W.Frag) (H : Hp) (vs : List V) (ds : List PyData) : Prop := 3 * vs.length = ds.length ∧ (∀ (j : Nat) v, vs[j]? = some v → ∃ x y d, ds[3 * j]? = some x ∧ ds[3 * j + 1]? = some y ∧ ds[3 * j + 2]? = some d ∧ EntG K H v x y d) ∧ (∀ d ∈ ds, imm d = true)
def spLTold (K : PySem.W.Frag) : Sp := fun vs H Q _ => ∃ (k : Nat) (x : V), vs = [.int k, x] ∧ (
  (k = 0 ∧ ((IsaV K H x "list" false ∧ ∀ (z : Str) (H' : Hp), z.length ≤ 100 → Same H H' → Q (.str (ang z)) H') ∨ ∃ es, EntsV K H x es ∧ (match outAll es with
    | some t => ∀ H', Same H H' → Q (.str (S t)) H'
    | none => ∀ (z : Str) (H' : Hp), z.length ≤ 100 → Same H H' → Q (.str (ang z)) H'))) ∨
  (k = 1 ∧ ∃ d, Dp K H x d ∧ (∀ z, x = .str z → z.length ≤ 20000) ∧ (match d with
    | .str z => (match diaryL z.cps.toList with
      | .inl n => ∀ H', Same H H' → Q (.str (ang (rowS n))) H'
      | .inr ds => ∀ p vs H', Same H H' → H p = none → H' p = some (.lst vs) → EntsG K H' vs ds → Q (.ref p) H')
    | _ => ∀ H', Same H H' → Q (.str (ang (Str.ofString "no text"))) H')))
theorem parts_le : ∀ (ls : List (List Nat)) (n : Nat), (∀ m, parts n ls = .inl m → m ≤ n + ls.length) ∧ ∀ es, parts n ls = .inr es → es.length = ls.length := by
  intro ls
  induction ls with
  | nil => exact fun n => ⟨(fun m h => by cases h), fun es h => by cases h; rfl⟩
  | cons l ls ih =>
    intro n
    obtain ⟨i1, i2⟩ := ih (n + 1)
    simp only [parts, List.length_cons]
    cases hp : partL (n % 3) l with
    | none => exact ⟨fun m h => by cases h; omega, fun es h => by cases h⟩
    | some d =>
      cases hq : parts (n + 1) ls with
      | inl m' => exact ⟨fun m h => by cases h; have := i1 _ hq; omega, fun es h => by cases h⟩
      | inr es' => exact ⟨(fun m h => by cases h), fun es h => by cases h; rw [List.length_cons, i2 _ hq]⟩
theorem diaryL_le {l : List Nat} {n : Nat} (h : diaryL l = .inl n) : n ≤ l.length + 2 := by
  have hc := (spl_lens [10] 0 [] l).2
  have hd : (rowsL l).dropLast.length ≤ l.length + 1 := by rw [List.length_dropLast]; unfold rowsL; omega
  obtain ⟨i1, i2⟩ := parts_le (rowsL l).dropLast 0
  unfold diaryL at h
  cases hp : parts 0 (rowsL l).dropLast with
  | inl m => rw [hp] at h; cases h; have := i1 _ hp; omega
  | inr ds =>
    rw [hp] at h
    simp only at h
    have := i2 _ hp
    split at h
    · cases h
    · cases h; omega
theorem strlen_app (a b : Str) : (a ++ b).length = a.length + b.length := by
  show (a ++ b).cps.size = a.cps.size + b.cps.size
  exact Array.size_append
theorem rowS_len {n : Nat} (h : n ≤ 100000) : (rowS n).length ≤ 100010 := by
  have := (rowS_ok h).2.1
  unfold rowS
  rw [strlen_app]
  have : (Str.ofString "row ").length = 4 := by decide +kernel
  omega
section
variable {P : Program} {w : World} {K : PySem.W.Frag} {mg : Str → Option Value} {base : Heap}
theorem o__law_told (W : Wd fa fn K mg) : OkG P w K mg base d__law_told 7 ["which", "value"] (spLTold K) := by
  have o_write_diary := (o_write_diary (P := P) (w := w) (base := base) W).mono (show 4 ≤ 6 by decide)
  have o_read_diary := (o_read_diary (P := P) (w := w) (base := base) W)
  obtain ⟨fd_write_diary, F_write_diary, b_write_diary, k_write_diary⟩ := o_write_diary.ex; obtain ⟨fd_read_diary, F_read_diary, b_read_diary, k_read_diary⟩ := o_read_diary.ex
  refine okfN false W (d := d__law_told) 26 sc__law_told rfl rfl (fun _ _ _ _ _ _ us hl => match us, hl with | [_, _], _ => rfl) ?len (fun cdv A outer s H vs Q E hr nd hu tk bo h => ?body)
  case len =>
    rintro vs H Q E ⟨_, _, rfl, _⟩
    rfl
  case body =>
    have po := bo.po; refine ⟨_, (pss_one (ps_try_as (m := false) (i := 2) rfl rfl nd rfl rfl ⟨rfl, by decide, .inl (W.glo 19)⟩ tk (fun _ _ _ tk po => (pss_one (ps_ret (pe_ifExp (pt_cmpR op_eq (pv 0) pe_int (nomark _)) (by exact (pe_callS F_write_diary (hr.mono (by first | decide | omega)) rfl (W.glo 44) k_write_diary b_write_diary (fun σ => passAt tk σ) (by exact (pa_cons (pv 1) pa_nil)))) (by exact (pe_callS F_read_diary (hr.mono (by first | decide | omega)) rfl (W.glo 45) k_read_diary b_read_diary (fun σ => passAt tk σ) (by exact (pa_cons (pv 1) pa_nil)))))))) (fun a oe cls d pn hz hf => (pss_one (ps_ret (pe_op op_add_str (pe_op op_add_str pe_str (pe_strX hz (i := 2) rfl (.inl rfl) rfl (W.free 11) (by exact Nat.lt_of_le_of_lt (Nat.add_le_add_left (by decide : 2 ≤ 64) _) hr.units))) pe_str)))))), ?_⟩
    obtain ⟨k, x, rfl, hq⟩ := h
    clear tk po bo
    have ex := W.exm (x := "Malformed") (y := "Malformed") (b := true) 54
    walk_at "x"
    have szl := sizeLine_eq
    have l1 : (Str.ofString "<").length = 1 := by decide +kernel
    have l2 : (Str.ofString ">").length = 1 := by decide +kernel
    have sc := W.strC
    have caught : ∀ (z : Str) (t : Addr) (H1 : Hp), z.length ≤ 100010 → H1 t = some (.tup [.str z]) → Q (.str (ang z)) H1 → WE (wAs K (Value.ref (He.ga K (Str.ofString "Malformed"))) 2 (fun a cls d => tRet (tOp
                (fun x y H Q =>
                  ∃ i, x = V.str i ∧ ∃ x, y = V.str x ∧ i.length + x.length ≤ sizeLine ∧ Q (V.str (i ++ x)) H)
                (tOp
                  (fun x y H Q =>
                    ∃ i, x = V.str i ∧ ∃ x, y = V.str x ∧ i.length + x.length ≤ sizeLine ∧ Q (V.str (i ++ x)) H)
                  (tC (V.str (Str.ofString "<"))) (tStrX 2 K a cls d))
                (tC (V.str (Str.ofString ">")))))
          (fun cls dd x H => E cls dd H) { nx := fun x H' => Q V.non H', rt := Q })
        [some (V.int k), some x, none] (mal K) (some t) H1 := by
      intro z t H1 hz ht hq
      refine ⟨true, ex, fun _ a ha => ?_, fun q => nomatch q⟩
      walk_at "x"
      refine ⟨rfl, _, t, z, rfl, sc, rfl, ht, _, rfl, by omega, ?_, hq⟩
      rw [strlen_app]
      omega
    rcases hq with ⟨rfl, hq⟩ | ⟨rfl, d, hd, hz, hq⟩
    · refine iteT' rfl ?_
      rcases hq with ⟨h1, hq⟩ | ⟨es, ⟨a, xs, rfl, h1, h2, h3, h4, h5⟩, hq⟩
      · exact ⟨x, rfl, .inl ⟨h1, fun z hz t H1 s1 ht => caught z t H1 (by omega) ht (hq z H1 hz s1)⟩⟩
      · refine ⟨_, rfl, .inr ⟨a, xs, es, rfl, h1, h2, h3, h4, h5, ?_⟩⟩
        cases ho : outAll es with
        | some t => rw [ho] at hq; exact hq
        | none => rw [ho] at hq; exact fun z hz t H1 s1 ht => caught z t H1 (by omega) ht (hq z H1 hz s1)
    · refine iteF' (by simp) ⟨x, d, rfl, hd, hz, ?_⟩
      have nt : (∀ H', Same H H' → Q (.str (ang (Str.ofString "no text"))) H') → BadT K _ H (Str.ofString "no text") := fun hq t H1 s1 ht => caught _ t H1 (by decide +kernel) ht (hq H1 s1)
      cases hd with
      | str z =>
        cases hdl : diaryL z.cps.toList with
        | inl n =>
          simp only [hdl] at hq ⊢
          exact fun t H1 s1 ht => caught _ t H1 (rowS_len (by have := diaryL_le hdl; have := hz z rfl; have el : z.length = z.cps.toList.length := rfl; omega)) ht (hq H1 s1)
        | inr ds =>
          simp only [hdl] at hq ⊢
          exact fun p vs H' s1 h1 h2 h3 h4 h5 => hq p vs H' s1 h1 h2 ⟨h3, h4, h5⟩
      | _ => exact nt hq
end
end WW

set_option maxHeartbeats 4000000
namespace WW
open PySem PySem.Spec PyProof.Rows L2
local macro_rules | `(tactic| walk_at "x") => `(tactic| simp only [tSeq, tNext, tAsg, gName, tRet, tRetN, tIfS, tOp, tUn, rI, rI0, rU, tTest, tB, tAnd, tOr, tNot, tAndV, tOrV, tNotV, tIf, tCons, tNil, tTup, tLst, tCall, tCallS, tMeth, tMake, tFld, sFld, tBM, tBM0, tCB, tSl, tPart, tNoPart, tDrop, tPar, tPar3, tAug, ipI, gTup, gCons, gNil, gSub, rSetL, rAppend, rPop, rIxL, rIxS, rIxT, rEq, rNe, tChain, tNever, tThen, tVar, tC, L2.start, List.map_cons, List.map_nil, List.length_cons, List.length_nil, List.replicate_succ, List.replicate_zero, List.append_nil, List.nil_append, List.cons_append, Nat.reduceAdd, Nat.reduceSub, Nat.add_zero, Nat.zero_add, Nat.sub_zero, Nat.sub_self,
  List.getElem?_cons_zero, List.getElem?_cons_succ, Option.some.injEq, exists_eq_left', exists_eq_left, exists_eq', exists_eq, exists_and_left, List.set_cons_zero, List.set_cons_succ, V.int.injEq, V.bl.injEq, V.str.injEq, V.ref.injEq, V.ty.injEq, List.cons.injEq, and_true, true_and, and_assoc, if_true, if_false, Bool.false_eq_true, reduceCtorEq, false_and, and_false, exists_false, false_or, or_false, Bool.not_true, Bool.not_false, decide_eq_true_eq, ite_true, ite_false, WE, cxOf_K, cxOf_mg, rSlS, scal, wipe, mem_low, mem_dig, mem_brk, mem_brk4, sgn_inj, Bool.decide_eq_true])

def DueG (K : PySem.W.Frag) (H : Hp) (us : List V) (ds : List PyData) : Prop := 3 * us.length = ds.length ∧ ∀ (j : Nat) v, us[j]? = some v → ∃ x y d, ds[3 * j]? = some x ∧ ds[3 * j + 1]? = some y ∧ ds[3 * j + 2]? = some d ∧ EntD K H v x y d
def spLFits (K : PySem.W.Frag) : Sp := fun vs H Q _ => ∃ told due, vs = [told, due] ∧ (∀ H', Same H H' → Q (.bl true) H') ∧ ((∃ n : Nat, n ≤ 100000 ∧ due = .int n ∧ told = .str (ang (rowS n))) ∨
  ∃ p q ts us ds, told = .ref p ∧ due = .ref q ∧ H p = some (.lst ts) ∧ H q = some (.lst us) ∧ EntsG K H ts ds ∧ DueG K H us ds ∧ (∀ d ∈ ds, szD d ≤ 200000) ∧ ts.length ≤ 100000)
theorem ixL {K : PySem.W.Frag} {H : Hp} {p : Addr} {xs : List V} {i : Int} {x : V} {Q : VK} (h : SqL K H p xs) (e : atI xs i = some x) (q : Q x H) : rIx K (.ref p) (.int i) H Q := .inl ⟨p, xs, i, x, rfl, rfl, h, e, q⟩
theorem ixT {K : PySem.W.Frag} {H : Hp} {p : Addr} {xs : List V} {i : Int} {x : V} {Q : VK} (h : SqT K H p xs) (e : atI xs i = some x) (q : Q x H) : rIx K (.ref p) (.int i) H Q := .inr (.inl ⟨p, xs, i, x, rfl, rfl, h, e, q⟩)
theorem str_assoc (a b c : Str) : a ++ b ++ c = a ++ (b ++ c) := by
  rw [← S_tl a, ← S_tl b, ← S_tl c]
  simp only [S_app, List.append_assoc]
section
variable {P : Program} {w : World} {K : PySem.W.Frag} {mg : Str → Option Value} {base : Heap}
theorem o__law_fits (W : Wd fa fn K mg) : OkF P w K mg base d__law_fits 4 ["told", "due"] (spLFits K) := by
  have o_Reply___init__ := (o_Reply___init__ (P := P) (w := w) (base := base) W)
  have o_Reply___eq__ := (o_Reply___eq__ (P := P) (w := w) (base := base) W).mono (show 2 ≤ 3 by decide)
  obtain ⟨fd_Reply___init__, F_Reply___init__, b_Reply___init__, ⟨d1_Reply___init__, v1_Reply___init__, b1_Reply___init__⟩, ⟨d2_Reply___init__, v2_Reply___init__, b2_Reply___init__⟩⟩ := o_Reply___init__.ex; obtain ⟨fd_Reply___eq__, F_Reply___eq__, b_Reply___eq__, k_Reply___eq__⟩ := o_Reply___eq__.ex
  refine okfN true W (d := d__law_fits) 27 sc__law_fits rfl rfl (fun _ _ _ _ _ _ us hl => match us, hl with | [_, _], _ => rfl) ?len (fun cdv A outer s H vs Q E hr nd hu tk bo h => ?body)
  case len =>
    rintro vs H Q E ⟨_, _, rfl, _⟩
    rfl
  case body =>
    have po := bo.po; refine ⟨_, (pss_cons (ps_if (pt_val (pe_callB call_isiV (by rfl) (W.free 0) (by decide +kernel) (pa_cons (pv 1) (pa_cons (pe_bltn (v := .ty "int") (u := .type "int") rfl (W.free 2) (by decide +kernel) rfl) pa_nil)))) (pss_one (ps_ret (pe_cmpR op_eq (pv 0) (pe_op op_add_str (pe_op op_add_str pe_str (pe_callTy (call_str1 rfl W.dg) (by rfl) (W.free 11) (by decide +kernel) (pa_cons (pv 1) pa_nil))) pe_str) (nomark _)))) pss_nil)
    (pss_cons (ps_if (PW.pt (pw_or (pt_not (pt_val (pe_callB call_isiV (by rfl) (W.free 0) (by decide +kernel) (pa_cons (pv 0) (pa_cons (pe_bltn (v := .ty "list") (u := .type "list") rfl (W.free 5) (by decide +kernel) rfl) pa_nil))))) (pw_or1 (pt_cmpR op_ne (pe_callB call_len (by rfl) (W.free 3) (by decide +kernel) (pa_cons (pv 0) pa_nil)) (pe_callB call_len (by rfl) (W.free 3) (by decide +kernel) (pa_cons (pv 1) pa_nil)) (nomark _))))) (pss_one (ps_ret pe_bl)) pss_nil)
    (pss_one (ps_ret (pe_callB (cr_all rfl) (by rfl) (W.free 7) (by decide +kernel) (pa_cons (pe_lc (own := [("k", 2)]) (g := (gName 2)) (tt := tYes) rfl nd (pi_range1 rfl (W.free 13) (pa_cons (pe_callB call_len (by rfl) (W.free 3) (by decide +kernel) (pa_cons (pv 1) pa_nil)) pa_nil)) (blkOk_by (own := [("k", 2)]) (N := ["told", "due", "k"]) (sc := defScope s__law_fits) (by decide +kernel)) (fun _ _ _ _ _ => (pg_name (i := 2) nd rfl (by first | exact Or.inl rfl | exact Or.inr rfl))) (fun _ _ _ _ _ => pts_nil) (fun _ _ _ _ _ => (pe_and (pe_cmpR op_eq (pe_ix (kIx (K := K) (r := rIx) rfl ix_seq) (pe_ix (kIx (K := K) (r := rIx) rfl ix_seq) (pv 0) (pv 2) (fun _ _ => rfl)) pe_int (fun _ _ => rfl)) (pe_ix (kIx (K := K) (r := rIx) rfl ix_seq) (pe_ix (kIx (K := K) (r := rIx) rfl ix_seq) (pv 1) (pv 2) (fun _ _ => rfl)) pe_int (fun _ _ => rfl)) (nomark _)) (pe_and (pe_cmpR (op_eqG (D := DIns (cRep K) (RepE K)) (rcG_ins (E := E0) F_Reply___eq__ (W.meth (x := "Reply") (m := "__eq__") 58).at_ (W.meth (x := "Reply") (m := "__eq__") 58).fn b_Reply___eq__ passL) hr) (pe_ix (kIx (K := K) (r := rIx) rfl ix_seq) (pe_ix (kIx (K := K) (r := rIx) rfl ix_seq) (pv 0) (pv 2) (fun _ _ => rfl)) pe_int (fun _ _ => rfl)) (pe_make (W.mkr 37) F_Reply___init__ (hr.mono (by first | decide | omega)) rfl (W.glo 32) b_Reply___init__ .nil passL (pa_cons (pe_ix (kIx (K := K) (r := rIx) rfl ix_seq) (pe_ix (kIx (K := K) (r := rIx) rfl ix_seq) (pv 1) (pv 2) (fun _ _ => rfl)) pe_int (fun _ _ => rfl)) (pa_cons (pe_ix (kIx (K := K) (r := rIx) rfl ix_seq) (pe_ix (kIx (K := K) (r := rIx) rfl ix_seq) (pv 1) (pv 2) (fun _ _ => rfl)) pe_int (fun _ _ => rfl)) (pa_cons (pe_ix (kIx (K := K) (r := rIx) rfl ix_seq) (pe_ix (kIx (K := K) (r := rIx) rfl ix_seq) (pv 1) (pv 2) (fun _ _ => rfl)) pe_int (fun _ _ => rfl)) pa_nil)))) (nomark _)) (pe_one (pe_cmpR op_eq (pe_callB (kCall (K := K) (r := rLenK) rfl call_len) (by rfl) (W.free 3) (by decide +kernel) (pa_cons (pe_ix (kIx (K := K) (r := rIx) rfl ix_seq) (pv 0) (pv 2) (fun _ _ => rfl)) pa_nil)) pe_int (nomark _))))))) pa_nil)))))), ?_⟩
    obtain ⟨told, due, rfl, hq, h⟩ := h
    clear tk po bo
    walk_at "x"
    have szl := sizeLine_eq
    simp only [rIsaV]
    rcases h with ⟨n, hn, rfl, rfl⟩ | ⟨p, q, ts, us, ds, rfl, rfl, hp, hqq, ⟨hl1, he, him⟩, ⟨hl2, hdu⟩, hsz, hle⟩
    · obtain ⟨r1, r2, r3⟩ := rowS_ok (n := n) hn
      refine ⟨_, _, rfl, by decide, true, rfl, _, rfl, iteT' rfl ⟨_, rfl, r3, _, rfl, ?_, ?_, rfl, ?_⟩⟩
      · rw [show (Str.ofString "<row ").length = 5 by decide +kernel]; omega
      · rw [strlen_app, show (Str.ofString "<row ").length = 5 by decide +kernel, show (Str.ofString ">").length = 1 by decide +kernel]; omega
      · have e : ang (rowS n) = Str.ofString "<row " ++ Str.ofString (toString ((n : Nat) : Int)) ++ Str.ofString ">" := by
          unfold ang rowS
          rw [show Str.ofString "<row " = Str.ofString "<" ++ Str.ofString "row " by decide +kernel]
          simp only [str_assoc]
        rw [e, decide_eq_true rfl]
        exact hq _ (Same.refl _)
    · refine ⟨_, _, rfl, by decide, false, .inl ⟨_, SqL.of hqq, rfl⟩, _, rfl, iteF' (by simp) ⟨_, _, rfl, by decide, true, .inl ⟨_, SqL.of hp, rfl⟩, _, rfl, iteF' (by simp) ⟨_, .inl ⟨_, SqL.of hp, rfl⟩, _, .inl ⟨_, SqL.of hqq, rfl⟩, iteF' (by simp; omega) ?_⟩⟩⟩
      refine tLc_of (walk_range (lo := 0) (n := us.length)) (H1 := H) ?_ (fun D j H' => ∃ es : List Bool, Same H H' ∧ H' D = some (.lst (es.map .bl)) ∧ es.length = j ∧ H D = none ∧ es.all id = true) ?_ (fun _ _ _ _ _ => trivial) ?_ ?_
      · intro R hR
        simp only [iRng1]
        walk_at "x"
        exact ⟨_, .inl ⟨_, SqL.of hqq, rfl⟩, by omega, by omega, hR⟩
      · exact fun D hD => ⟨[], Same.new hD, upd_same, rfl, hD, rfl⟩
      · rintro D j v H5 H6 hj ⟨es, s5, hD5, le, bD, hes⟩ ⟨rfl, rfl⟩
        simp only [gName, tYes]
        walk_at "x"
        have gt : ts[j]? = some (ts[j]'(by omega)) := List.getElem?_eq_getElem (by omega)
        have gu : us[j]? = some us[j] := List.getElem?_eq_getElem hj
        generalize ts[j]'(by omega) = tv at gt
        generalize us[j] = uv at gu
        obtain ⟨x0, y0, d0, c1, c2, c3, ⟨b, w, wd, k, t, ew, hb, ex0, ey0, hwd, iwd⟩⟩ := hdu j uv gu
        subst ew ex0 ey0
        obtain ⟨x1, y1, d1, c4, c5, c6, ⟨a, u, r, k1, t1, ew, ha, hu1, ey1, hrep, i1, i2, i3⟩⟩ := he j tv gt
        subst ew
        rw [c1] at c4; cases c4
        rw [c2] at c5; cases c5
        rw [c3] at c6; cases c6
        cases ey1
        cases hu1
        have hzd : szD d0 ≤ 200000 := hsz d0 (List.mem_of_getElem? c3)
        have hp6 : SqL K H6 p ts := SqL.of (s5 _ _ hp)
        have hq6 : SqL K H6 q us := SqL.of (s5 _ _ hqq)
        have ha6 : SqT K H6 a [.str w, .ref r] := (Tx.of s5).sqt ha
        have hb6 : SqT K H6 b [.str w, .str k, .str t, wd] := (Tx.of s5).sqt hb
        rw [Int.zero_add]
        have at_ : atI ts (j : Int) = some (.ref a) := atI_nat gt
        have au : atI us (j : Int) = some (.ref b) := atI_nat gu
        refine ixL hp6 at_ (ixT ha6 (atI_nat (j := 0) rfl) (ixL hq6 au (ixT hb6 (atI_nat (j := 0) rfl) ⟨rfl, iteT' rfl ?_⟩)))
        refine ixL hp6 at_ (ixT ha6 (atI_nat (j := 1) rfl) (ixL hq6 au (ixT hb6 (atI_nat (j := 1) rfl) (ixL hq6 au (ixT hb6 (atI_nat (j := 2) rfl) (ixL hq6 au (ixT hb6 (atI_nat (j := 3) rfl) ?_)))))))
        intro n dx hn hdx ne
        refine ⟨n, dx, .str k, .str t, wd, rfl, upd_same, rfl, ?_⟩
        rw [upd_upd]
        have nD1 : D ≠ n := ne_of_none hD5 hn
        have nD2 : D ≠ dx := ne_of_none hD5 hdx
        have nr1 : ∀ {z : Addr} {o : HO}, H6 z = some o → upd (upd H6 dx (.own n)) n (.ins (cRep K) dx (repF (.str k) (.str t) wd)) z = some o := by
          intro z o hz
          rw [upd_ne (ne_of_none hz hn), upd_ne (ne_of_none hz hdx)]
          exact hz
        generalize hH7 : upd (upd H6 dx (.own n)) n (.ins (cRep K) dx (repF (.str k) (.str t) wd)) = H7
        rw [hH7] at nr1
        have s7 : Same H6 H7 := fun z o hz => nr1 hz
        have hn7 : H7 n = some (.ins (cRep K) dx (repF (.str k) (.str t) wd)) := by rw [← hH7, upd_same]
        have s67 := Same.trans s5 s7
        have hr7 := hrep.same s67
        have hrep7 := hr7
        obtain ⟨dx1, kv1, tv1, dv1, g1, g2, g3, g4⟩ := hr7
        refine ⟨⟨r, n, dx1, dx, _, _, rfl, rfl, g1, hn7, .str k, .str t, d0, hrep7, ⟨dx, _, _, _, hn7, .str _, .str _, Dp.sm s67 _ _ hwd⟩, rfl, rfl, iwd, by simp only [szD]; omega, by simp only [szD]; omega, hzd⟩, fun H8 e8 => ?_⟩
        have s8 : Same H6 H8 := Same.trans s7 e8
        have hD8 := s8 _ _ hD5
        refine ⟨_, rfl, iteT' rfl (ixL (s8.seq hp6) at_ ⟨_, 2, rfl, .inr ⟨_, (Tx.of s8).sqt ha6, rfl⟩, rfl, _, hD8, by rw [List.length_map]; omega, Same.mut (Same.trans s5 s8) bD, es ++ [true], by rw [upd_same, List.map_append]; rfl, by simp [le], bD, by simp [hes]⟩)⟩
      · rintro D H' ⟨es, s5, hD5, le, bD, hes⟩
        refine ⟨D, es, rfl, SqL.of hD5, ?_⟩
        rw [hes]
        exact hq _ s5
end
end WW

set_option maxHeartbeats 4000000
namespace WW
open PySem PySem.Spec PyProof.Rows L2
section
variable {X : Cx}
/-- != of two lists with the very same items -/
def rNeSame : R2 := fun x y H Q => ∃ a b, ∃ as : List Addr, x = .ref a ∧ y = .ref b ∧ H a = some (.lst (as.map .ref)) ∧ H b = some (.lst (as.map .ref)) ∧ Q (.bl false) H
theorem vals_refs : ∀ {as : List Addr} {us : List Value}, Vals (as.map V.ref) us → us = as.map Value.ref
  | [], _, h => by cases h; rfl
  | a :: as, _, h => by
    cases h with
    | cons h1 h2 =>
      rw [vals_refs h2]
      rw [show _ = Value.ref a from h1]
      rfl
theorem op_neSame (hu : X.A.units < cLine) : OpR X (compareOp .NotEq) rNeSame := by
  intro pins s σ H x y v u Q I rx ry h
  obtain ⟨a, b, as, rfl, rfl, ha, hb, q⟩ := h
  cases rx
  cases ry
  obtain ⟨z, its, k, r, e⟩ := I.hok a _ ha
  obtain ⟨z2, its2, k2, r2, e2⟩ := I.hok b _ hb
  rw [vals_refs r] at e
  rw [vals_refs r2] at e2
  have h1 : SeqAt.RcNeAt X.A s (.ref a) (.ref b) _ := SeqAt.RcNeAt.lists (items := (as.map Value.ref).toArray) (items2 := (as.map Value.ref).toArray) (e := fun _ => true) ⟨_, e, rfl, _, rfl⟩ ⟨_, e2, rfl, _, rfl⟩ rfl hu (fun j h1 h2 => SeqAt.EqAt.same _)
  have ee : (!(List.range (as.map Value.ref).toArray.size).all fun _ => true) = false := by simp
  rw [ee] at h1
  exact h1 X.prog X.w X.xe _ ⟨.bl false, H, I, rfl, q⟩
end
end WW

set_option maxHeartbeats 4000000
namespace WW
open PySem PySem.Spec PyProof.Rows L2
/-! ### drawn entries, plain -/
def lines4 : List (List Nat) := [[], [114, 101, 99, 107, 111, 110], [35, 32, 97], [62, 32, 120]]
def kinds3 : List (List Nat) := [[97], [101, 114, 114, 111, 114], [120, 57]]
def mores3 : List (List Nat) := [[], [110, 111], [32, 49, 32, 50]]
structure Ent where
  l : List Nat
  k : List Nat
  m : List Nat
  d : PyData
def Ent.ok (e : Ent) : Prop := e.l ∈ lines4 ∧ e.k ∈ kinds3 ∧ e.m ∈ mores3 ∧ Gen 4 e.d ∧ isa e.d "tuple" = true
def Ent.txt (e : Ent) : List Nat := rowsE e.l e.k e.m (wT e.d)
def txtA (es : List Ent) : List Nat := (es.map Ent.txt).flatten
def Ent.ev (e : Ent) : EV := .pair (.str (S e.l)) (.rep (.str (S e.k)) (.str (S e.m)) e.d)
def Ent.ps (e : Ent) : List PyData := [.str (S e.l), .tuple [.str (S e.k), .str (S e.m)], e.d]
def Ent.rows (e : Ent) : List (List Nat) := [[62, 32] ++ e.l, [61, 32] ++ e.k ++ [32] ++ e.m, [35, 32] ++ wT e.d]
theorem wTs_in {c : Nat} : ∀ ds : List PyData, c ≠ 44 → (∀ d ∈ ds, c ∉ wT d) → c ∉ wTs ds
  | [], _, _ => by simp [wTs]
  | d :: ds, hc, h => by
    have h1 := h d (List.mem_cons_self ..)
    have h2 := wTs_in ds hc fun e he => h e (List.mem_cons_of_mem _ he)
    rw [wTs_cons]
    split
    · exact h1
    · simp only [List.mem_append, List.mem_cons, not_or]
      exact ⟨h1, hc, h2⟩
theorem gen_feed {n : Nat} {d : PyData} (h : Gen n d) : 10 ∉ wT d := by
  induction h with
  | @word n z hz =>
    simp only [List.mem_cons, List.not_mem_nil, or_false] at hz
    rcases hz with rfl | rfl <;> decide
  | @int n i hi =>
    simp only [List.mem_cons, List.not_mem_nil, or_false] at hi
    rcases hi with rfl | rfl | rfl <;> decide +kernel
  | @tup n ds hl _ ih =>
    have := wTs_in (c := 10) ds (by decide) fun d hd => ih d hd
    simp only [wT, List.mem_cons, List.mem_append, List.not_mem_nil, or_false, not_or]
    exact ⟨by decide, this, by decide⟩
theorem lines_ok : ∀ l ∈ lines4, textL l = true ∧ 10 ∉ l ∧ l.length ≤ 6 := by decide
theorem kinds_ok : ∀ k ∈ kinds3, wordL k = true ∧ 10 ∉ k ∧ k.length ≤ 6 := by decide
theorem mores_ok : ∀ m ∈ mores3, textL m = true ∧ 10 ∉ m ∧ m.length ≤ 6 := by decide
theorem kindL_ok : ∀ k ∈ kinds3, ∀ m ∈ mores3, kindL (k ++ [32] ++ m) = some (k, m) := by decide +kernel
theorem Ent.out {e : Ent} (h : e.ok) : outE e.ev = some e.txt := by
  obtain ⟨h1, h2, h3, h4, h5⟩ := h
  have a1 := (lines_ok _ h1).1
  have a2 := (kinds_ok _ h2).1
  have a3 := (mores_ok _ h3).1
  have a4 := gen_wd h4 (by decide)
  simp only [Ent.ev, outE, textD, wordD, tl_S, a1, a2, a3, h5, a4, Bool.and_self, if_true, Option.map_some, strD]
  rfl
theorem outAll_ev : ∀ es : List Ent, (∀ e ∈ es, e.ok) → outAll (es.map Ent.ev) = some (txtA es)
  | [], _ => rfl
  | e :: es, h => by
    have i1 := Ent.out (h e (List.mem_cons_self ..))
    have i2 := outAll_ev es fun x hx => h x (List.mem_cons_of_mem _ hx)
    simp only [List.map_cons, outAll, i1, i2, Option.bind_some, Option.map_some, txtA, List.flatten_cons]
theorem Ent.small {e : Ent} (h : e.ok) : smE e.ev := by
  obtain ⟨h1, h2, h3, h4, h5⟩ := h
  have st : ∀ l : List Nat, l.length ≤ 6 → smD (.str (S l)) := by
    intro l hl
    have l1 : (S l).length ≤ 6 := by rw [len_S]; exact hl
    refine ⟨by unfold smallD; exact decide_eq_true (by omega), by unfold szD; omega, fun t ht => ?_, fun z e => by cases e; omega⟩
    simp only [wD] at ht
    split at ht
    · cases ht
      show (S l).length ≤ 100000
      omega
    · cases ht
  refine ⟨st _ (lines_ok _ h1).2.2, st _ (kinds_ok _ h2).2.2, st _ (mores_ok _ h3).2.2, (gen_small h4).1, Nat.le_trans (gen_small h4).2 (Nat.le_trans (sb_le 4 (by decide)) (by decide)), fun t ht => ?_, fun z e => ?_⟩
  · rw [gen_wd h4 (by decide)] at ht
    cases ht
    exact Nat.le_trans (gen_len h4 (by decide)) (by decide)
  · rw [e] at h5
    cases h5
theorem Ent.len {e : Ent} (h : e.ok) : e.txt.length ≤ 4000 := by
  obtain ⟨h1, h2, h3, h4, h5⟩ := h
  have a1 := (lines_ok _ h1).2.2
  have a2 := (kinds_ok _ h2).2.2
  have a3 := (mores_ok _ h3).2.2
  have a4 := gen_len h4 (by decide)
  simp only [Ent.txt, rowsE, List.length_append, List.length_cons, List.length_nil]
  omega
theorem txtA_len : ∀ es : List Ent, (∀ e ∈ es, e.ok) → (txtA es).length ≤ 4000 * es.length
  | [], _ => by simp [txtA]
  | e :: es, h => by
    have i1 := Ent.len (h e (List.mem_cons_self ..))
    have i2 := txtA_len es fun x hx => h x (List.mem_cons_of_mem _ hx)
    simp only [txtA, List.map_cons, List.flatten_cons, List.length_append, List.length_cons] at i2 ⊢
    omega
theorem spl_row : ∀ (a acc r : List Nat), 10 ∉ a → TL.spl [10] 0 acc (a ++ 10 :: r) = (acc ++ a) :: TL.spl [10] 0 [] r
  | [], acc, r, _ => by
    rw [List.nil_append, List.append_nil, TL.spl_hit (by simp [TL.pre])]
    rfl
  | c :: a, acc, r, h => by
    have hc : c ≠ 10 := fun e => h (e ▸ List.mem_cons_self ..)
    have i := spl_row a (acc ++ [c]) r fun hm => h (List.mem_cons_of_mem _ hm)
    rw [List.cons_append]
    rw [TL.spl_miss (by simp [TL.pre, hc, Ne.symm hc]), i]
    simp
theorem rowsL_row {a r : List Nat} (h : 10 ∉ a) : rowsL (a ++ [10] ++ r) = a :: rowsL r := by
  unfold rowsL
  have := spl_row a [] r h
  simpa using this
theorem rowsL_txt : ∀ es : List Ent, (∀ e ∈ es, e.ok) → rowsL (txtA es) = (es.map Ent.rows).flatten ++ [[]]
  | [], _ => rfl
  | e :: es, h => by
    have i2 := rowsL_txt es fun x hx => h x (List.mem_cons_of_mem _ hx)
    obtain ⟨h1, h2, h3, h4, h5⟩ := h e (List.mem_cons_self ..)
    have a1 := (lines_ok _ h1).2.1
    have a2 := (kinds_ok _ h2).2.1
    have a3 := (mores_ok _ h3).2.1
    have a4 := gen_feed h4
    have e1 : txtA (e :: es) = ([62, 32] ++ e.l) ++ [10] ++ (([61, 32] ++ e.k ++ [32] ++ e.m) ++ [10] ++ (([35, 32] ++ wT e.d) ++ [10] ++ txtA es)) := by
      simp only [txtA, List.map_cons, List.flatten_cons, Ent.txt, rowsE, List.append_assoc]
    rw [e1, rowsL_row (by simp; exact a1), rowsL_row (by simp; exact ⟨a2, a3⟩), rowsL_row (by simp; exact a4), i2]
    rfl
theorem partL_eq {k : Nat} {l : List Nat} (h : l.take 2 = markL k) : partL k l = (if k = 0 then some (.str (S (l.drop 2))) else if k = 1 then (kindL (l.drop 2)).map fun q => .tuple [.str (S q.1), .str (S q.2)] else (readD (.str (S (l.drop 2)))).bind tupleD) := by
  unfold partL
  rw [if_pos h]
theorem parts_txt : ∀ (es : List Ent) (n : Nat), n % 3 = 0 → (∀ e ∈ es, e.ok) → parts n (es.map Ent.rows).flatten = .inr (es.map Ent.ps).flatten
  | [], _, _, _ => rfl
  | e :: es, n, hn, h => by
    have i2 := parts_txt es (n + 1 + 1 + 1) (by omega) fun x hx => h x (List.mem_cons_of_mem _ hx)
    obtain ⟨h1, h2, h3, h4, h5⟩ := h e (List.mem_cons_self ..)
    have p0 : partL (n % 3) ([62, 32] ++ e.l) = some (.str (S e.l)) := by
      rw [hn]
      rfl
    have p1 : partL ((n + 1) % 3) ([61, 32] ++ e.k ++ [32] ++ e.m) = some (.tuple [.str (S e.k), .str (S e.m)]) := by
      rw [show (n + 1) % 3 = 1 by omega]
      rw [partL_eq (k := 1) (l := [61, 32] ++ e.k ++ [32] ++ e.m) rfl, if_neg (by decide), if_pos rfl]
      have e2 : List.drop 2 ([61, 32] ++ e.k ++ [32] ++ e.m) = e.k ++ [32] ++ e.m := rfl
      rw [e2, kindL_ok _ h2 _ h3]
      rfl
    have p2 : partL ((n + 1 + 1) % 3) ([35, 32] ++ wT e.d) = some e.d := by
      rw [show (n + 1 + 1) % 3 = 2 by omega]
      rw [partL_eq (k := 2) (l := [35, 32] ++ wT e.d) rfl, if_neg (by decide), if_neg (by decide)]
      have e2 : List.drop 2 ([35, 32] ++ wT e.d) = wT e.d := rfl
      rw [e2, gen_rd h4 (by decide)]
      simp only [Option.bind_some, tupleD, h5, if_true]
    show parts n (([62, 32] ++ e.l) :: ([61, 32] ++ e.k ++ [32] ++ e.m) :: ([35, 32] ++ wT e.d) :: (es.map Ent.rows).flatten) = .inr (.str (S e.l) :: .tuple [.str (S e.k), .str (S e.m)] :: e.d :: (es.map Ent.ps).flatten)
    rw [parts, p0]
    simp only
    rw [parts, p1]
    simp only
    rw [parts, p2]
    simp only
    rw [i2]
theorem diary_txt (es : List Ent) (h : ∀ e ∈ es, e.ok) : diaryL (txtA es) = .inr (es.map Ent.ps).flatten ∧ (es.map Ent.ps).flatten.length = 3 * es.length := by
  have hl : ∀ es : List Ent, (es.map Ent.ps).flatten.length = 3 * es.length := by
    intro es
    induction es with
    | nil => rfl
    | cons e es ih =>
      rw [List.map_cons, List.flatten_cons, List.length_append, ih, List.length_cons]
      show 3 + _ = _
      omega
  refine ⟨?_, hl es⟩
  unfold diaryL
  rw [rowsL_txt es h, List.dropLast_concat, parts_txt es 0 rfl h]
  simp only
  rw [if_pos ⟨by simp, by rw [hl]; omega⟩]
/-- what is read is not too large -/
theorem partL_sz {k : Nat} {l : List Nat} {d : PyData} (h : partL k l = some d) : szD d ≤ 10 + 6 * l.length := by
  unfold partL at h
  split at h
  · split at h
    · cases h; simp only [szD]; omega
    · split at h
      · obtain ⟨q, _, e⟩ := Option.map_eq_some_iff.mp h
        subst e
        simp only [szD, szDs]
        omega
      · obtain ⟨e, h1, h2⟩ := Option.bind_eq_some_iff.mp h
        have z := (readD_ok h1).2
        rw [len_S, List.length_drop] at z
        unfold tupleD at h2
        split at h2
        · cases h2; omega
        · cases h2
  · cases h
theorem parts_sz {M : Nat} : ∀ (ls : List (List Nat)) (n : Nat) {ds : List PyData}, parts n ls = .inr ds → (∀ l ∈ ls, l.length ≤ M) → ∀ d ∈ ds, szD d ≤ 10 + 6 * M := by
  intro ls
  induction ls with
  | nil =>
    intro n ds h _ d hd
    simp only [parts] at h
    cases h
    cases hd
  | cons l ls ih =>
    intro n ds h hl d hd
    simp only [parts] at h
    cases hp : partL (n % 3) l with
    | none => rw [hp] at h; cases h
    | some d0 =>
      rw [hp] at h
      simp only at h
      cases hq : parts (n + 1) ls with
      | inl m => rw [hq] at h; cases h
      | inr es =>
        rw [hq] at h
        cases h
        rcases List.mem_cons.mp hd with rfl | hd
        · have := partL_sz hp
          have := hl l (List.mem_cons_self ..)
          omega
        · exact ih (n + 1) hq (fun x hx => hl x (List.mem_cons_of_mem _ hx)) d hd
theorem diaryL_sz {l : List Nat} {ds : List PyData} (h : diaryL l = .inr ds) (hl : l.length ≤ 20000) : (∀ d ∈ ds, szD d ≤ 200000) ∧ ds.length ≤ 20001 := by
  obtain ⟨h1, h2⟩ := spl_lens [10] 0 [] l
  have hd : (rowsL l).dropLast.length ≤ l.length := by rw [List.length_dropLast]; unfold rowsL; omega
  unfold diaryL at h
  cases hp : parts 0 (rowsL l).dropLast with
  | inl m => rw [hp] at h; cases h
  | inr es =>
    rw [hp] at h
    simp only at h
    split at h
    · cases h
      refine ⟨fun d hd => Nat.le_trans (parts_sz (M := 20000) _ 0 hp (fun x hx => ?_) d hd) (by decide), ?_⟩
      · have := h1 x (List.dropLast_subset _ hx)
        simp only [List.length_nil] at this
        omega
      · have := (parts_le _ 0).2 _ hp
        omega
    · cases h
end WW

set_option maxHeartbeats 4000000
namespace WW
open PySem PySem.Spec PyProof.Rows L2
local macro_rules | `(tactic| walk_at "x") => `(tactic| simp only [tSeq, tNext, tAsg, gName, tRet, tRetN, tIfS, tOp, tUn, rI, rI0, rU, tTest, tB, tAnd, tOr, tNot, tAndV, tOrV, tNotV, tIf, tCons, tNil, tTup, tLst, tCall, tCallS, tMeth, tMake, tFld, sFld, tBM, tBM0, tCB, tSl, tPart, tNoPart, tDrop, tPar, tPar3, tAug, ipI, gTup, gCons, gNil, gSub, rSetL, rAppend, rPop, rIxL, rIxS, rIxT, rEq, rNe, tChain, tNever, tThen, tVar, tC, L2.start, List.map_cons, List.map_nil, List.length_cons, List.length_nil, List.replicate_succ, List.replicate_zero, List.append_nil, List.nil_append, List.cons_append, Nat.reduceAdd, Nat.reduceSub, Nat.add_zero, Nat.zero_add, Nat.sub_zero, Nat.sub_self,
  List.getElem?_cons_zero, List.getElem?_cons_succ, Option.some.injEq, exists_eq_left', exists_eq_left, exists_eq', exists_eq, exists_and_left, List.set_cons_zero, List.set_cons_succ, V.int.injEq, V.bl.injEq, V.str.injEq, V.ref.injEq, V.ty.injEq, List.cons.injEq, and_true, true_and, and_assoc, if_true, if_false, Bool.false_eq_true, reduceCtorEq, false_and, and_false, exists_false, false_or, or_false, Bool.not_true, Bool.not_false, decide_eq_true_eq, ite_true, ite_false, WE, cxOf_K, cxOf_mg, rSlS, scal, wipe, mem_low, mem_dig, mem_brk, mem_brk4, sgn_inj, Bool.decide_eq_true])

theorem EntsG.same {K : PySem.W.Frag} {H H' : Hp} {vs : List V} {ds : List PyData} (h : EntsG K H vs ds) (s : Same H H') : EntsG K H' vs ds := by
  obtain ⟨h1, h2, h3⟩ := h
  refine ⟨h1, fun j v hv => ?_, h3⟩
  obtain ⟨x, y, d, c1, c2, c3, c4⟩ := h2 j v hv
  exact ⟨x, y, d, c1, c2, c3, c4.same s⟩
/-- what is told of a text fits what is due -/
theorem fits_ok {K : PySem.W.Frag} {z : Str} {H : Hp} {Q : VK} {E1 E2 E3 : XK} (hz : z.length ≤ 20000) (hq : ∀ H', Same H H' → Q (.bl true) H') :
    spLTold K [.int 1, .str z] H (fun x H1 => spLDue K [.str z] H1 (fun y H2 => spLFits K [x, y] H2 Q E3) E2) E1 := by
  refine ⟨1, .str z, rfl, .inr ⟨rfl, .str z, .str z, fun y e => by cases e; exact hz, ?_⟩⟩
  have el : z.length = z.cps.toList.length := rfl
  cases hd : diaryL z.cps.toList with
  | inl n =>
    simp only [hd]
    intro H1 s1
    refine ⟨z, rfl, hz, ?_⟩
    simp only [hd]
    intro H2 s2
    exact ⟨_, _, rfl, fun H3 s3 => hq H3 (Same.trans s1 (Same.trans s2 s3)), .inl ⟨n, by have := diaryL_le hd; omega, rfl, rfl⟩⟩
  | inr ds =>
    simp only [hd]
    intro p vs H1 s1 _ h1 hg
    refine ⟨z, rfl, hz, ?_⟩
    simp only [hd]
    intro q us H2 s2 _ g1 gl ge
    obtain ⟨hsz, hl⟩ := diaryL_sz hd (by omega)
    exact ⟨_, _, rfl, fun H3 s3 => hq H3 (Same.trans s1 (Same.trans s2 s3)), .inr ⟨p, q, vs, us, ds, rfl, rfl, s2 _ _ h1, g1, hg.same s2, ⟨gl, ge⟩, hsz, by have := hg.1; omega⟩⟩
/-! ### drawn entries in the heap -/
def Tr (H H' : Hp) : Prop := Tx H H' ∧ ∀ r C dx fs, H r = some (.ins C dx fs) → H' r = some (.ins C dx fs)
theorem Tr.same {H H' : Hp} (s : Same H H') : Tr H H' := ⟨Tx.of s, fun _ _ _ _ h => s _ _ h⟩
theorem Tr.trans {H H1 H2 : Hp} (a : Tr H H1) (b : Tr H1 H2) : Tr H H2 := ⟨a.1.trans b.1, fun r C dx fs h => b.2 _ _ _ _ (a.2 _ _ _ _ h)⟩
theorem Tr.kp {dr cs : Addr} {H H1 : Hp} (D : Dr H dr cs) (a : Kp dr cs H H1) : Tr H H1 := ⟨Kp.tx D a, fun r C dx fs h => a.1 r _ (fun e => by
  obtain ⟨ns, p, q, sd, g, _, _⟩ := D
  rw [e, g.d] at h
  cases h) h⟩
theorem Tr.up {H : Hp} {p : Addr} {xs ys : List V} (h : H p = some (.lst xs)) : Tr H (upd H p (.lst ys)) := ⟨Tx.up h noTup_l, fun r C dx fs e => by
  rw [upd_ne (fun e' => by rw [e', h] at e; cases e)]
  exact e⟩
/-- a drawn entry -/
def EvE (K : PySem.W.Frag) (H : Hp) (v : V) (e : Ent) : Prop := ∃ b r dx dv, v = .ref b ∧ SqT K H b [.str (S e.l), .ref r] ∧ H r = some (.ins (cRep K) dx (repF (.str (S e.k)) (.str (S e.m)) dv)) ∧ Dp K H dv e.d
theorem EvE.tr {K : PySem.W.Frag} {H H' : Hp} {v : V} {e : Ent} (t : Tr H H') (ok : e.ok) (h : EvE K H v e) : EvE K H' v e := by
  obtain ⟨b, r, dx, dv, h1, h2, h3, h4⟩ := h
  exact ⟨b, r, dx, dv, h1, t.1.sqt h2, t.2 _ _ _ _ h3, Dp.tx t.1 _ _ ok.2.2.2.1.imm h4⟩
theorem EvE.ev {K : PySem.W.Frag} {H : Hp} {v : V} {e : Ent} (h : EvE K H v e) : EvV K H v e.ev := by
  obtain ⟨b, r, dx, dv, h1, h2, h3, h4⟩ := h
  exact ⟨b, _, _, h1, h2, .str _, r, rfl, dx, _, _, _, h3, .str _, .str _, h4⟩
def EsE (K : PySem.W.Frag) (H : Hp) (vs : List V) (es : List Ent) : Prop := vs.length = es.length ∧ (∀ (i : Nat) v, vs[i]? = some v → ∃ e, es[i]? = some e ∧ EvE K H v e) ∧ ∀ e ∈ es, e.ok
theorem EsE.tr {K : PySem.W.Frag} {H H' : Hp} {vs : List V} {es : List Ent} (t : Tr H H') (h : EsE K H vs es) : EsE K H' vs es := by
  obtain ⟨h1, h2, h3⟩ := h
  refine ⟨h1, fun i v hv => ?_, h3⟩
  obtain ⟨e, g1, g2⟩ := h2 i v hv
  exact ⟨e, g1, g2.tr t (h3 e (List.mem_of_getElem? g1))⟩
theorem EsE.refs {K : PySem.W.Frag} {H : Hp} {vs : List V} {es : List Ent} (h : EsE K H vs es) : ∃ as : List Addr, vs = as.map V.ref := by
  obtain ⟨h1, h2, h3⟩ := h
  have : ∀ v ∈ vs, ∃ a, v = V.ref a := by
    intro v hv
    obtain ⟨i, e⟩ := List.mem_iff_getElem?.mp hv
    obtain ⟨_, _, b, _, _, _, e2, _⟩ := h2 i v e
    exact ⟨b, e2⟩
  clear h1 h2 h3
  induction vs with
  | nil => exact ⟨[], rfl⟩
  | cons v vs ih =>
    obtain ⟨as, e⟩ := ih fun x hx => this x (List.mem_cons_of_mem _ hx)
    obtain ⟨a, e2⟩ := this v (List.mem_cons_self ..)
    exact ⟨a :: as, by rw [e, e2]; rfl⟩
theorem EsE.app {K : PySem.W.Frag} {H : Hp} {vs : List V} {es : List Ent} {v : V} {e : Ent} (h : EsE K H vs es) (ok : e.ok) (g : EvE K H v e) : EsE K H (vs ++ [v]) (es ++ [e]) := by
  obtain ⟨h1, h2, h3⟩ := h
  refine ⟨by simp [h1], fun i x hx => ?_, fun x hx => ?_⟩
  · rcases Nat.lt_trichotomy i vs.length with h | h | h
    · rw [List.getElem?_append_left h] at hx
      obtain ⟨e', g1, g2⟩ := h2 i x hx
      exact ⟨e', by rw [List.getElem?_append_left (by omega)]; exact g1, g2⟩
    · subst h
      have ev : v = x := by simpa using hx
      subst ev
      exact ⟨e, by rw [h1]; simp, g⟩
    · rw [List.getElem?_eq_none (by rw [List.length_append, List.length_singleton]; omega)] at hx
      cases hx
  · rcases List.mem_append.mp hx with hx | hx
    · exact h3 x hx
    · rw [List.mem_singleton.mp hx]; exact ok
theorem told_txt {K : PySem.W.Frag} {H : Hp} {p : Addr} {vs : List V} {es : List Ent} {Q : VK} {E : XK} (hp : H p = some (.lst vs)) (h : EsE K H vs es) (hl : es.length ≤ 3) (hq : ∀ H', Same H H' → Q (.str (S (txtA es))) H') : spLTold K [.int 0, .ref p] H Q E := by
  obtain ⟨h1, h2, h3⟩ := h
  refine ⟨0, _, rfl, .inl ⟨rfl, .inr ⟨es.map Ent.ev, ⟨p, vs, rfl, SqL.of hp, by simp [h1], fun i v hv => ?_, fun e he => ?_, by simp; omega⟩, ?_⟩⟩⟩
  · obtain ⟨e, g1, g2⟩ := h2 i v hv
    exact ⟨e.ev, by rw [List.getElem?_map, g1]; rfl, g2.ev⟩
  · obtain ⟨x, hx, rfl⟩ := List.mem_map.mp he
    exact Ent.small (h3 x hx)
  · rw [outAll_ev es h3]
    exact hq
theorem told_len {K : PySem.W.Frag} {H : Hp} {es : List Ent} {Q : VK} {E : XK} (h : ∀ e ∈ es, e.ok) (hl : es.length ≤ 3) (hq : ∀ p vs H', Same H H' → H' p = some (.lst vs) → vs.length = es.length → Q (.ref p) H') : spLTold K [.int 1, .str (S (txtA es))] H Q E := by
  have tl := txtA_len es h
  refine ⟨1, _, rfl, .inr ⟨rfl, .str (S (txtA es)), .str _, fun y e => by cases e; rw [len_S]; omega, ?_⟩⟩
  obtain ⟨d1, d2⟩ := diary_txt es h
  simp only [tl_S, d1]
  intro p vs H' s _ h1 hg
  exact hq p vs H' s h1 (by have := hg.1; omega)
theorem lst_of {H : Hp} {ta : TA} {σ : L2.St} {xs : List V} {Q : VK} (hta : ∀ R : List V → Hp → Prop, R xs H → ta σ H R) (hl : xs.length ≤ 100) (hq : ∀ p, H p = none → Q (.ref p) (upd H p (.lst xs))) : tLst ta σ H Q := by
  refine hta _ ⟨?_, hq⟩
  rw [sizeLine_eq]
  omega
/-- one of a list of values, drawn -/
theorem pick {K : PySem.W.Frag} {H : Hp} {W : WX} {ta : TA} {σ : L2.St} {xs : List V} {Q : VK} {dr cs : Addr} {n : Nat} (hσ : σ[1]? = some (some (.ref dr))) (hD : Dr H dr cs) (hta : ∀ R : List V → Hp → Prop, R xs H → ta σ H R) (hl : xs.length ≤ 100) (hn : xs.length = n) (h0 : 0 < n)
    (hq : ∀ v ∈ xs, ∀ H', Kp dr cs H H' → Q v H') : tOp (rIxL K) (tLst ta) (tCallS spTake1 (WE W) (tCons (tVar 1) (tCons (tC (V.int (n : Nat))) tNil))) σ H Q := by
  refine lst_of hta hl fun p hp => ?_
  refine ⟨_, hσ, ?_⟩
  have np : p ≠ dr := fun e => by
    obtain ⟨ns, p1, q1, sd, g, _, _⟩ := hD
    rw [e, g.d] at hp
    cases hp
  have kp2 := (Kp.refl hD).new (o := HO.lst xs) hp
  refine ⟨dr, cs, n, rfl, by omega, by omega, kp2.2, fun a H2 ha fr2 hD2 => ?_⟩
  have kp3 := kp2.trans (Kp.of fr2 hD2)
  have hL : SqL K H2 p xs := SqL.of (by rw [fr2 p np, upd_same])
  have ga : xs[a]? = some (xs[a]'(by omega)) := List.getElem?_eq_getElem (by omega)
  exact ⟨_, _, _, _, rfl, rfl, hL, atI_nat ga, hq _ (List.mem_of_getElem? ga) H2 kp3⟩
theorem tFor_r {wi : TI} {g : TG} {tb : TS} {D : Ends} {σ : L2.St} {H : Hp} (G : Nat → Hp → Prop) (hI : ∀ R : It → Hp → Prop, (∀ n H', G n H' → R (Itr 0 n) H') → wi σ H R) (Pv : Nat → Nat → L2.St → Hp → Prop) (h0 : ∀ n H', G n H' → Pv n 0 σ H')
    (hs : ∀ n i σ H, i < n → Pv n i σ H → g (.int (i : Nat)) σ H fun σ2 H2 => tb { D with nx := Pv n (i + 1), ct := Pv n (i + 1), bk := D.nx } σ2 H2) (hd : ∀ n σ H, Pv n n σ H → D.nx σ H) : tFor wi g tb D σ H :=
  hI _ fun n H1 hG => for_it (walk_range (lo := 0) (n := n)) (Pv n) (h0 n H1 hG) (fun _ _ _ _ _ => trivial) (fun i x σ H2 H3 hi hp hy => by
    obtain ⟨rfl, rfl⟩ := hy
    have := hs n i σ _ hi hp
    rw [show ((i : Nat) : Int) = 0 + (i : Int) by omega] at this
    exact this) (hd n)
theorem tFor_l {K : PySem.W.Frag} {wi : TI} {g : TG} {tb : TS} {D : Ends} {σ : L2.St} {H : Hp} {xs : List V} (hI : ∀ R : It → Hp → Prop, (∀ p, H p = none → R (Itl K p) (upd H p (.lst xs))) → wi σ H R) (Pv : L2.St → Prop) (h0 : Pv σ)
    (hs : ∀ (p : Addr) (i : Nat) x σ H', H p = none → xs[i]? = some x → Pv σ → Same (upd H p (.lst xs)) H' → g x σ H' fun σ2 H2 => tb { D with nx := fun σ3 H3 => Pv σ3 ∧ Same (upd H p (.lst xs)) H3, ct := fun σ3 H3 => Pv σ3 ∧ Same (upd H p (.lst xs)) H3, bk := D.nx } σ2 H2)
    (hd : ∀ σ H', Pv σ → Same H H' → D.nx σ H') : tFor wi g tb D σ H :=
  hI _ fun p hp => for_it (walk_list (K := K) (a := p) (xs := xs)) (fun _ σ H' => Pv σ ∧ Same (upd H p (.lst xs)) H') ⟨h0, Same.refl _⟩ (fun j σ H' _ q => SqL.of (q.2 _ _ upd_same)) (fun i x σ H2 H3 hi hp2 hy => by
    obtain ⟨rfl, hx⟩ := hy
    exact hs p i x σ _ hp hx hp2.1 hp2.2) (fun σ H' q => hd σ H' q.1 (Same.trans (Same.new hp) q.2))
def signs8 : List V := [.str (Str.ofString "x"), .str (Str.ofString "\n"), .str (Str.ofString " "), .str (Str.ofString ">"), .str (Str.ofString "="), .str (Str.ofString "#"), .str (Str.ofString "["), .str (Str.ofString "A")]
theorem signs_ok : ∀ v ∈ signs8, ∃ l : List Nat, v = .str (S l) ∧ l.length = 1 := by
  intro v hv
  simp only [signs8, List.mem_cons, List.not_mem_nil, or_false] at hv
  rcases hv with rfl | rfl | rfl | rfl | rfl | rfl | rfl | rfl
  · exact ⟨[120], congrArg V.str (by decide +kernel), rfl⟩
  · exact ⟨[10], congrArg V.str (by decide +kernel), rfl⟩
  · exact ⟨[32], congrArg V.str (by decide +kernel), rfl⟩
  · exact ⟨[62], congrArg V.str (by decide +kernel), rfl⟩
  · exact ⟨[61], congrArg V.str (by decide +kernel), rfl⟩
  · exact ⟨[35], congrArg V.str (by decide +kernel), rfl⟩
  · exact ⟨[91], congrArg V.str (by decide +kernel), rfl⟩
  · exact ⟨[65], congrArg V.str (by decide +kernel), rfl⟩
theorem data_ok {K : PySem.W.Frag} {H : Hp} {W : WX} {Q : VK} {dr cs : Addr} {y0 y2 y3 y4 y5 y6 y7 y8 y9 y10 y11 y12 y13 y14 y15 y16 y17 y18 : Option V} (hD : Dr H dr cs)
    (hq : ∀ D vs ds H', Kp dr cs H H' → H' D = some (.lst vs) → DpAll K H' vs ds → ds.length ≤ 2 → (∀ d ∈ ds, Gen 3 d) → Q (.ref D) H') :
    tLc (iRng1 (tCons (tCallS spTake1 (WE W) (tCons (tVar 1) (tCons (tC (V.int 3)) tNil))) tNil)) (gName 14) tYes (tCall (spData K 4) [] E0 (tCons (tVar 1) (tCons (tC (V.int 3)) tNil))) [14] [y0, some (.ref dr), y2, y3, y4, y5, y6, y7, y8, y9, y10, y11, y12, y13, y14, y15, y16, y17, y18] H Q := by
  have hI : ∀ R : It → Hp → Prop, (∀ (a : Nat) H2, a < 3 → Kp dr cs H H2 → R (Itr 0 a) H2) → iRng1 (tCons (tCallS spTake1 (WE W) (tCons (tVar 1) (tCons (tC (V.int 3)) tNil))) tNil) [y0, some (.ref dr), y2, y3, y4, y5, y6, y7, y8, y9, y10, y11, y12, y13, y14, y15, y16, y17, y18] H R := by
    intro R hR
    simp only [iRng1]
    walk_at "x"
    refine ⟨dr, cs, 3, rfl, by decide, by decide, hD, fun a H2 ha fr2 hD2 => ⟨_, rfl, by omega, by omega, ?_⟩⟩
    rw [Int.toNat_natCast]
    exact hR a H2 (by omega) (Kp.of fr2 hD2)
  unfold tLc
  refine hI _ fun a H2 ha kp2 => fun D hDn => ?_
  refine lc_it (walk_range (lo := 0) (n := a)) (fun i H' => Kp dr cs H2 H' ∧ ∃ vs ds, H' D = some (.lst vs) ∧ DpAll K H' vs ds ∧ vs.length = i ∧ ds.length = i ∧ ∀ d ∈ ds, Gen 3 d) ⟨Kp.new (Kp.refl kp2.2) hDn, [], [], upd_same, .nil, rfl, rfl, fun _ h => nomatch h⟩ (fun _ _ _ _ => trivial) ?_ ?_
  · rintro i x H3 H4 hi ⟨kp3, vs, ds, hv, hvd, hvl, hdl, hg⟩ ⟨rfl, rfl⟩
    walk_at "x"
    have nD : D ≠ dr := fun e => by
      obtain ⟨ns, p1, q1, sd, g, _, _⟩ := kp2.2
      rw [e, g.d] at hDn
      cases hDn
    refine ⟨dr, cs, 3, rfl, by omega, kp3.2, fun v d H5 hgd hvd5 kp5 => ?_⟩
    have hv5 := kp5.1 D _ nD hv
    have t5 := Kp.tx kp3.2 kp5
    have tU : Tx H5 (upd H5 D (.lst (vs ++ [v]))) := Tx.up hv5 noTup_l
    refine ⟨vs, hv5, by rw [hvl, sizeLine_eq]; omega, (kp3.trans kp5).mut kp2.2 hDn, vs ++ [v], upd_same, ds ++ [d], ?_, by simp [hvl], by simp [hdl], fun e he => ?_⟩
    · exact DpAll.app (DpAll.tx (t5.trans tU) (immAllG ds fun e he => (hg e he).imm) hvd) (.cons (Dp.tx tU _ _ hgd.imm hvd5) .nil)
    · rcases List.mem_append.mp he with he | he
      · exact hg e he
      · rw [List.mem_singleton.mp he]; exact hgd
  · rintro H3 ⟨kp3, vs, ds, hv, hvd, hvl, hdl, hg⟩
    exact hq D vs ds H3 (kp2.trans kp3) hv hvd (by omega) hg
theorem lits1 : ∀ v ∈ [V.str (Str.ofString ""), .str (Str.ofString "reckon"), .str (Str.ofString "# a"), .str (Str.ofString "> x")], ∃ l ∈ lines4, v = .str (S l) := by
  intro v hv
  simp only [List.mem_cons, List.not_mem_nil, or_false] at hv
  rcases hv with rfl | rfl | rfl | rfl
  · exact ⟨_, by simp [lines4], congrArg V.str empty_lit⟩
  · exact ⟨[114, 101, 99, 107, 111, 110], by simp [lines4], congrArg V.str (by decide +kernel)⟩
  · exact ⟨[35, 32, 97], by simp [lines4], congrArg V.str (by decide +kernel)⟩
  · exact ⟨[62, 32, 120], by simp [lines4], congrArg V.str (by decide +kernel)⟩
theorem lits2 : ∀ v ∈ [V.str (Str.ofString "a"), .str (Str.ofString "error"), .str (Str.ofString "x9")], ∃ l ∈ kinds3, v = .str (S l) := by
  intro v hv
  simp only [List.mem_cons, List.not_mem_nil, or_false] at hv
  rcases hv with rfl | rfl | rfl
  · exact ⟨[97], by simp [kinds3], congrArg V.str (by decide +kernel)⟩
  · exact ⟨[101, 114, 114, 111, 114], by simp [kinds3], congrArg V.str (by decide +kernel)⟩
  · exact ⟨[120, 57], by simp [kinds3], congrArg V.str (by decide +kernel)⟩
theorem lits3 : ∀ v ∈ [V.str (Str.ofString ""), .str (Str.ofString "no"), .str (Str.ofString " 1 2")], ∃ l ∈ mores3, v = .str (S l) := by
  intro v hv
  simp only [List.mem_cons, List.not_mem_nil, or_false] at hv
  rcases hv with rfl | rfl | rfl
  · exact ⟨_, by simp [mores3], congrArg V.str empty_lit⟩
  · exact ⟨[110, 111], by simp [mores3], congrArg V.str (by decide +kernel)⟩
  · exact ⟨[32, 49, 32, 50], by simp [mores3], congrArg V.str (by decide +kernel)⟩
end WW

set_option maxHeartbeats 4000000
namespace WW
open PySem PySem.Spec PyProof.Rows L2
local macro_rules | `(tactic| walk_at "x") => `(tactic| simp only [tSeq, tNext, tAsg, gName, tRet, tRetN, tIfS, tOp, tUn, rI, rI0, rU, tTest, tB, tAnd, tOr, tNot, tAndV, tOrV, tNotV, tIf, tCons, tNil, tTup, tLst, tCall, tCallS, tMeth, tMake, tFld, sFld, tBM, tBM0, tCB, tSl, tPart, tNoPart, tDrop, tPar, tPar3, tAug, ipI, gTup, gCons, gNil, gSub, rSetL, rAppend, rPop, rIxL, rIxS, rIxT, rEq, rNe, tChain, tNever, tThen, tVar, tC, L2.start, List.map_cons, List.map_nil, List.length_cons, List.length_nil, List.replicate_succ, List.replicate_zero, List.append_nil, List.nil_append, List.cons_append, Nat.reduceAdd, Nat.reduceSub, Nat.add_zero, Nat.zero_add, Nat.sub_zero, Nat.sub_self,
  List.getElem?_cons_zero, List.getElem?_cons_succ, Option.some.injEq, exists_eq_left', exists_eq_left, exists_eq', exists_eq, exists_and_left, List.set_cons_zero, List.set_cons_succ, V.int.injEq, V.bl.injEq, V.str.injEq, V.ref.injEq, V.ty.injEq, List.cons.injEq, and_true, true_and, and_assoc, if_true, if_false, Bool.false_eq_true, reduceCtorEq, false_and, and_false, exists_false, false_or, or_false, Bool.not_true, Bool.not_false, decide_eq_true_eq, ite_true, ite_false, WE, cxOf_K, cxOf_mg, rSlS, scal, wipe, mem_low, mem_dig, mem_brk, mem_brk4, sgn_inj, Bool.decide_eq_true])

/-! ### entries that can not be written -/
theorem smD_str {l : List Nat} (hl : l.length ≤ 10) : smD (.str (S l)) := by
  have l1 : (S l).length ≤ 10 := by rw [len_S]; exact hl
  refine ⟨by unfold smallD; exact decide_eq_true (by omega), by unfold szD; omega, fun t ht => ?_, fun z e => by cases e; omega⟩
  simp only [wD] at ht
  split at ht
  · cases ht
    show (S l).length ≤ 100000
    omega
  · cases ht
theorem smD_of {d : PyData} (h1 : smallD d = true) (h2 : szD d ≤ 100000) (h3 : ∀ t, wD 1 d = some t → t.length ≤ 100000) (h4 : ∀ z, d ≠ .str z) : smD d := ⟨h1, h2, h3, fun z e => absurd e (h4 z)⟩
theorem smD_non : smD .none := smD_of rfl (by decide) (fun t ht => by simp [wD] at ht) (fun z e => nomatch e)
theorem smD_nil : smD (.tuple []) := smD_of rfl (by decide) (fun t ht => by simp [wD, wDs] at ht; subst ht; decide) (fun z e => nomatch e)
theorem smD_lnil : smD (.list []) := smD_of rfl (by decide) (fun t ht => by simp [wD] at ht) (fun z e => nomatch e)
theorem smD_tn : smD (.tuple [.none]) := smD_of rfl (by decide) (fun t ht => by simp [wD, wDs] at ht) (fun z e => nomatch e)
def BadV (K : PySem.W.Frag) (H : Hp) (v : V) : Prop := ∃ e, outE e = none ∧ smE e ∧ EvV K H v e
theorem BadV.same {K : PySem.W.Frag} {H H' : Hp} {v : V} (h : BadV K H v) (s : Same H H') : BadV K H' v := by
  obtain ⟨e, h1, h2, h3⟩ := h
  exact ⟨e, h1, h2, h3.same s⟩
section
variable {K : PySem.W.Frag} {σ : L2.St}
/-- an expression makes one of them -/
def Mk (K : PySem.W.Frag) (σ : L2.St) (te : TE) : Prop := ∀ (H : Hp) (R : VK), (∀ v H', Same H H' → BadV K H' v → R v H') → te σ H R
def Mks (K : PySem.W.Frag) (σ : L2.St) (ta : TA) (n : Nat) : Prop := ∀ (H : Hp) (R : List V → Hp → Prop), (∀ vs H', Same H H' → vs.length = n → (∀ v ∈ vs, BadV K H' v) → R vs H') → ta σ H R
theorem mks_nil : Mks K σ tNil 0 := fun H R h => h [] H (Same.refl _) rfl fun _ h => nomatch h
theorem mks_cons {te : TE} {ta : TA} {n : Nat} (h1 : Mk K σ te) (h2 : Mks K σ ta n) : Mks K σ (tCons te ta) (n + 1) := fun H R h => h1 H _ fun v H1 s1 hv => h2 H1 _ fun vs H2 s2 hl hvs => h (v :: vs) H2 (Same.trans s1 s2) (by rw [List.length_cons, hl]) fun x hx => by
  rcases List.mem_cons.mp hx with rfl | hx
  · exact hv.same s2
  · exact hvs x hx
theorem mks_lst {ta : TA} {n : Nat} (h : Mks K σ ta n) (hn : n ≤ 100) {H : Hp} {Q : VK} (hq : ∀ p vs H', Same H H' → H' p = some (.lst vs) → vs.length = n → (∀ v ∈ vs, BadV K H' v) → Q (.ref p) H') : tLst ta σ H Q := h H _ fun vs H1 s1 hl hv => ⟨by rw [hl, sizeLine_eq]; omega, fun p hp => hq p vs _ (Same.trans s1 (Same.new hp)) upd_same hl fun v hm => (hv v hm).same (Same.new hp)⟩
/-- arguments of Reply -/
def Args (K : PySem.W.Frag) (σ : L2.St) (ta : TA) (ds : List V) (kd td dd : PyData) : Prop := ∀ (H : Hp) (R : List V → Hp → Prop), (∀ vs k t d H', Same H H' → vs ++ ds = [k, t, d] → Dp K H' k kd → Dp K H' t td → Dp K H' d dd → R vs H') → ta σ H R
abbrev tRep (K : PySem.W.Frag) (ds : List V) (ta : TA) : TE := tMake (He.ga K d_Reply___init__.at_.fst) (spReplyInit K) ds E0 ta
theorem rep_ok {ta : TA} {ds : List V} {kd td dd : PyData} (ha : Args K σ ta ds kd td dd) {H : Hp} {Q : VK} (hq : ∀ r H', Same H H' → RepV K H' r kd td dd → Q (.ref r) H') : tRep K ds ta σ H Q := by
  refine ha H _ fun vs k t d H1 s1 e hk ht hd => ?_
  intro r dx hr hdx ne
  rw [e]
  refine ⟨r, dx, k, t, d, rfl, upd_same, rfl, ?_⟩
  rw [upd_upd]
  have s2 : Same H1 (upd (upd H1 dx (.own r)) r (.ins (cRep K) dx (repF k t d))) := Same.mut (Same.new hdx) hr
  exact hq r _ (Same.trans s1 s2) ⟨dx, k, t, d, upd_same, Dp.sm s2 _ _ hk, Dp.sm s2 _ _ ht, Dp.sm s2 _ _ hd⟩
theorem tup_two {te : TE} {u : V} {H : Hp} {R : VK} (h : te σ H fun y H1 => [u, y].length ≤ sizeLine ∧ ∀ p, H1 p = none → R (.ref p) (upd H1 p (.tup [u, y]))) : tTup (tCons (tC u) (tCons te tNil)) σ H R := h
theorem lst_two {te : TE} {u : V} {H : Hp} {R : VK} (h : te σ H fun y H1 => [u, y].length ≤ sizeLine ∧ ∀ p, H1 p = none → R (.ref p) (upd H1 p (.lst [u, y]))) : tLst (tCons (tC u) (tCons te tNil)) σ H R := h
theorem mk_rep {ta : TA} {ds : List V} {kd td dd x : PyData} {u : V} (hu : ∀ H, Dp K H u x) (ha : Args K σ ta ds kd td dd) (hs : smE (.pair x (.rep kd td dd))) (ho : outE (.pair x (.rep kd td dd)) = none) : Mk K σ (tTup (tCons (tC u) (tCons (tRep K ds ta) tNil))) := by
  intro H R hR
  refine tup_two (rep_ok ha fun r H1 s1 hr => ⟨by simp; decide, fun p hp => ?_⟩)
  have s2 := Same.new (o := .tup [u, .ref r]) hp
  exact hR _ _ (Same.trans s1 s2) ⟨_, ho, hs, p, u, .ref r, rfl, SqT.of upd_same, hu _, r, rfl, hr.same s2⟩
theorem mk_lrep {ta : TA} {ds : List V} {kd td dd : PyData} {u : V} (ha : Args K σ ta ds kd td dd) : Mk K σ (tLst (tCons (tC u) (tCons (tRep K ds ta) tNil))) := by
  intro H R hR
  refine lst_two (rep_ok ha fun r H1 s1 hr => ⟨by simp; decide, fun p hp => ?_⟩)
  exact hR _ _ (Same.trans s1 (Same.new hp)) ⟨.other, rfl, trivial, .inl ⟨_, SqL.of upd_same, rfl⟩⟩
theorem mk_non : Mk K σ (tC .non) := fun H R hR => hR _ _ (Same.refl _) ⟨.other, rfl, trivial, rfl⟩
theorem mk_one {u : V} : Mk K σ (tTup (tCons (tC u) tNil)) := fun H R hR => ⟨by simp; decide, fun p hp => hR _ _ (Same.new hp) ⟨.tup 1, rfl, trivial, p, _, rfl, SqT.of upd_same, rfl, by decide⟩⟩
theorem mk_data {a b c : Str} (ha : smD (.str a)) : Mk K σ (tTup (tCons (tC (.str a)) (tCons (tTup (tCons (tC (.str b)) (tCons (tC (.str c)) (tCons (tTup tNil) tNil)))) tNil))) := by
  intro H R hR
  refine tup_two ?_
  walk_at "x"
  refine ⟨by decide, fun p hp => ⟨by decide, fun q hq => ⟨by decide, fun l hl => ?_⟩⟩⟩
  have s1 := Same.new (o := .tup []) hp
  have s2 := Same.new (o := .tup [.str b, .str c, .ref p]) hq
  have s3 := Same.new (o := .tup [.str a, .ref q]) hl
  refine hR _ _ (Same.trans s1 (Same.trans s2 s3)) ⟨.pair (.str a) (.data (.tuple [.str b, .str c, .tuple []])), rfl, ?_, l, _, _, rfl, SqT.of upd_same, .str a, ?_⟩
  · exact ha
  · exact .tup (SqT.of (s3 _ _ upd_same)) (.cons (.str _) (.cons (.str _) (.cons (.tup (SqT.of (s3 _ _ (s2 _ _ upd_same))) .nil) .nil)))
theorem args1 {a : Str} (hn : ∀ H, SqT K H (dflR K) []) : Args K σ (tCons (tC (.str a)) tNil) [.str (Str.ofString ""), .ref (dflR K)] (.str a) (.str (Str.ofString "")) (.tuple []) := fun H R h => h _ _ _ _ H (Same.refl _) rfl (.str _) (.str _) (.tup (hn H) .nil)
theorem args2 {a : Str} {t : V} {td : PyData} (hn : ∀ H, SqT K H (dflR K) []) (ht : ∀ H, Dp K H t td) : Args K σ (tCons (tC (.str a)) (tCons (tC t) tNil)) [.ref (dflR K)] (.str a) td (.tuple []) := fun H R h => h _ _ _ _ H (Same.refl _) rfl (.str _) (ht H) (.tup (hn H) .nil)
theorem args3 {a b : Str} : Args K σ (tCons (tC (.str a)) (tCons (tC (.str b)) (tCons (tLst tNil) tNil))) [] (.str a) (.str b) (.list []) := fun H R h => ⟨by simp, fun p hp => h _ _ _ _ _ (Same.new hp) rfl (.str _) (.str _) (.lst (SqL.of upd_same) .nil)⟩
theorem args4 {a b : Str} : Args K σ (tCons (tC (.str a)) (tCons (tC (.str b)) (tCons (tTup (tCons (tC .non) tNil)) tNil))) [] (.str a) (.str b) (.tuple [.none]) := fun H R h => ⟨by simp; decide, fun p hp => h _ _ _ _ _ (Same.new hp) rfl (.str _) (.str _) (.tup (SqT.of upd_same) (.cons .non .nil))⟩
theorem smD_lit {x : Str} (h : x.cps.toList.length ≤ 10) : smD (.str x) := smD_str (l := x.cps.toList) h
theorem sd0 : smD (.str (Str.ofString "")) := smD_lit (by decide +kernel)
theorem sda : smD (.str (Str.ofString "a")) := smD_lit (by decide +kernel)
theorem sdA : smD (.str (Str.ofString "A")) := smD_lit (by decide +kernel)
theorem sdn : smD (.str (Str.ofString "\n")) := smD_lit (by decide +kernel)
theorem sdan : smD (.str (Str.ofString "a\n")) := smD_lit (by decide +kernel)
theorem sdd : smD (.str (Str.ofString "done")) := smD_lit (by decide +kernel)
theorem bads1 (hn : ∀ H, SqT K H (dflR K) []) : Mks K σ (tCons (tC V.non) (tCons (tTup (tCons (tC (V.str (Str.ofString ""))) tNil)) (tCons (tLst (tCons (tC (V.str (Str.ofString ""))) (tCons (tRep K [V.str (Str.ofString ""), V.ref (dflR K)] (tCons (tC (V.str (Str.ofString "a"))) tNil)) tNil)))
  (tCons (tTup (tCons (tC V.non) (tCons (tRep K [V.str (Str.ofString ""), V.ref (dflR K)] (tCons (tC (V.str (Str.ofString "a"))) tNil)) tNil)))
  (tCons (tTup (tCons (tC (V.str (Str.ofString "a\n"))) (tCons (tRep K [V.str (Str.ofString ""), V.ref (dflR K)] (tCons (tC (V.str (Str.ofString "a"))) tNil)) tNil)))
  (tCons (tTup (tCons (tC (V.str (Str.ofString ""))) (tCons (tTup (tCons (tC (V.str (Str.ofString "a"))) (tCons (tC (V.str (Str.ofString ""))) (tCons (tTup tNil) tNil)))) tNil)))
  (tCons (tTup (tCons (tC (V.str (Str.ofString ""))) (tCons (tRep K [V.str (Str.ofString ""), V.ref (dflR K)] (tCons (tC (V.str (Str.ofString "A"))) tNil)) tNil))) tNil))))))) 7 :=
  mks_cons mk_non (mks_cons mk_one (mks_cons (mk_lrep (args1 hn)) (mks_cons (mk_rep (fun _ => .non) (args1 hn) ⟨smD_non, sda, sd0, smD_nil⟩ rfl) (mks_cons (mk_rep (fun _ => .str _) (args1 hn) ⟨sdan, sda, sd0, smD_nil⟩ (by decide +kernel))
    (mks_cons (mk_data sd0) (mks_cons (mk_rep (fun _ => .str _) (args1 hn) ⟨sd0, sdA, sd0, smD_nil⟩ (by decide +kernel)) mks_nil))))))
theorem out_non {k t : PyData} {d : PyData} {x : PyData} (h : wD 1 d = none) : outE (.pair x (.rep k t d)) = none := by
  simp only [outE, h, Option.map_none, ite_self]
theorem bads2 (hn : ∀ H, SqT K H (dflR K) []) : Mks K σ (tCons (tTup (tCons (tC (V.str (Str.ofString ""))) (tCons (tRep K [V.ref (dflR K)] (tCons (tC (V.str (Str.ofString "a"))) (tCons (tC V.non) tNil))) tNil)))
  (tCons (tTup (tCons (tC (V.str (Str.ofString ""))) (tCons (tRep K [V.ref (dflR K)] (tCons (tC (V.str (Str.ofString "a"))) (tCons (tC (V.str (Str.ofString "\n"))) tNil))) tNil)))
  (tCons (tTup (tCons (tC (V.str (Str.ofString ""))) (tCons (tRep K [] (tCons (tC (V.str (Str.ofString "a"))) (tCons (tC (V.str (Str.ofString ""))) (tCons (tLst tNil) tNil)))) tNil)))
  (tCons (tTup (tCons (tC (V.str (Str.ofString ""))) (tCons (tRep K [] (tCons (tC (V.str (Str.ofString "a"))) (tCons (tC (V.str (Str.ofString ""))) (tCons (tTup (tCons (tC V.non) tNil)) tNil)))) tNil))) tNil)))) 4 :=
  mks_cons (mk_rep (fun _ => .str _) (args2 hn (fun _ => .non)) ⟨sd0, sda, smD_non, smD_nil⟩ (by decide +kernel)) (mks_cons (mk_rep (fun _ => .str _) (args2 hn (fun _ => .str _)) ⟨sd0, sda, sdn, smD_nil⟩ (by decide +kernel))
    (mks_cons (mk_rep (fun _ => .str _) args3 ⟨sd0, sda, sd0, smD_lnil⟩ (by decide +kernel)) (mks_cons (mk_rep (fun _ => .str _) args4 ⟨sd0, sda, sd0, smD_tn⟩ (out_non (by simp [wD, wDs]))) mks_nil)))
end
def gev : EV := .pair (.str (Str.ofString "")) (.rep (.str (Str.ofString "done")) (.str (Str.ofString "")) (.tuple []))
theorem told_bad {K : PySem.W.Frag} {H : Hp} {p : Addr} {g v : V} {Q : VK} {E : XK} (hp : H p = some (.lst [g, v])) (hg : EvV K H g gev) (hv : BadV K H v) (hq : ∀ (z : Str) H', z.length ≤ 100 → Same H H' → Q (.str (ang z)) H') : spLTold K [.int 0, .ref p] H Q E := by
  obtain ⟨e, h1, h2, h3⟩ := hv
  refine ⟨0, _, rfl, .inl ⟨rfl, .inr ⟨[gev, e], ⟨p, _, rfl, SqL.of hp, rfl, fun i u hu => ?_, fun x hx => ?_, by simp⟩, ?_⟩⟩⟩
  · match i, hu with
    | 0, hu => cases hu; exact ⟨gev, rfl, hg⟩
    | 1, hu => cases hu; exact ⟨e, rfl, h3⟩
  · simp only [List.mem_cons, List.not_mem_nil, or_false] at hx
    rcases hx with rfl | rfl
    · exact ⟨sd0, sdd, sd0, smD_nil⟩
    · exact h2
  · have : outAll [gev, e] = none := by
      simp only [outAll, h1, Option.bind_none, Option.map_none]
      cases outE gev <;> rfl
    rw [this]
    exact hq
theorem told_no {K : PySem.W.Frag} {H : Hp} {x : V} {Q : VK} {E : XK} (h : IsaV K H x "list" false) (hq : ∀ (z : Str) H', z.length ≤ 100 → Same H H' → Q (.str (ang z)) H') : spLTold K [.int 0, x] H Q E := ⟨0, _, rfl, .inl ⟨rfl, .inl ⟨h, hq⟩⟩⟩
theorem ang_cut (z : Str) : cutS (ang z) none (some 1) = S [60] := by
  have e := cut_to (ang z) 1
  rw [show ((1 : Nat) : Int) = 1 from rfl] at e
  rw [e]
  have : ang z = S ([60] ++ z.cps.toList ++ [62]) := by
    unfold ang
    rw [show Str.ofString "<" = S [60] by decide +kernel, show Str.ofString ">" = S [62] by decide +kernel, ← S_app, ← S_app, S_tl]
  rw [this, tl_S]
  rfl
theorem ang_len {z : Str} (h : z.length ≤ 100) : (ang z).length ≤ 200 := by
  unfold ang
  rw [strlen_app, strlen_app, show (Str.ofString "<").length = 1 by decide +kernel, show (Str.ofString ">").length = 1 by decide +kernel]
  omega
theorem tLc_l {K : PySem.W.Frag} {wi : TI} {te : TE} {j n : Nat} {vs : List Nat} {σ : L2.St} {H : Hp} {Q : VK} {u : V} (C : V → Hp → Prop) (hc : ∀ x H H', Same H H' → C x H → C x H') (hn : n ≤ 100)
    (hI : ∀ R : It → Hp → Prop, (∀ p xs H', Same H H' → H' p = some (.lst xs) → xs.length = n → (∀ x ∈ xs, C x H') → R (Itl K p) H') → wi σ H R)
    (hw : ∀ x, wipe ((wipe σ vs).set j (some x)) vs = wipe σ vs) (he : ∀ x H' (R : VK), C x H' → (∀ H'', Same H' H'' → R u H'') → te ((wipe σ vs).set j (some x)) H' R)
    (hq : ∀ D H', Same H H' → H' D = some (.lst (List.replicate n u)) → Q (.ref D) H') : tLc wi (gName j) tYes te vs σ H Q := by
  unfold tLc
  refine hI _ fun p xs H1 s1 hp hl hx => fun D hD => ?_
  refine lc_it (walk_list (K := K) (a := p) (xs := xs)) (fun i H' => Same H1 H' ∧ H' D = some (.lst (List.replicate i u))) ⟨Same.new hD, upd_same⟩ (fun j H' _ q => SqL.of (q.1 _ _ hp)) ?_ ?_
  · rintro i x H2 H3 hi ⟨s2, hD2⟩ ⟨rfl, hxi⟩
    refine ⟨hw x, ?_⟩
    simp only [tYes, if_true]
    refine he x _ _ (hc _ _ _ s2 (hx x (List.mem_of_getElem? hxi))) fun H4 s4 => ⟨_, s4 _ _ hD2, by rw [List.length_replicate, sizeLine_eq]; omega, Same.mut (Same.trans s2 s4) hD, ?_⟩
    rw [upd_same, List.replicate_succ']
  · rintro H2 ⟨s2, hD2⟩
    rw [hl] at hD2
    exact hq D H2 (Same.trans s1 s2) hD2
theorem told_notext {K : PySem.W.Frag} {H : Hp} {x : V} {d : PyData} {Q : VK} {E : XK} (hd : Dp K H x d) (hn : ∀ z, d ≠ .str z) (hq : ∀ H', Same H H' → Q (.str (ang (Str.ofString "no text"))) H') : spLTold K [.int 1, x] H Q E := by
  refine ⟨1, x, rfl, .inr ⟨rfl, d, hd, fun z e => ?_, ?_⟩⟩
  · subst e
    cases hd
    exact absurd rfl (hn z)
  · cases d with
    | str z => exact absurd rfl (hn z)
    | _ => exact hq
theorem rep3_dp {K : PySem.W.Frag} {H : Hp} {D : Addr} {l : List Nat} (h : H D = some (.lst (List.replicate 3 (.str (S l))))) : Dp K H (.ref D) (.list [.str (S l), .str (S l), .str (S l)]) := .lst (SqL.of h) (.cons (.str _) (.cons (.str _) (.cons (.str _) .nil)))
theorem rep3_eq {l : List Nat} : PyData.eqv (.list [.str (S l), .str (S l), .str (S l)]) (.list [.str (S l), .str (S l), .str (S l)]) = true := by simp [PyData.eqv, PyData.eqvAll]
theorem ne_rep3 {K : PySem.W.Frag} {H : Hp} {D q : Addr} {l : List Nat} {z : Str} {R : VK} (hz : z = S l) (ok : PyData.strOk (S l) = true) (h1 : H D = some (.lst (List.replicate 3 (.str (S l))))) (h2 : H q = some (.lst (List.replicate (Int.toNat 3) [V.str z]).flatten)) (hr : R (.bl false) H) : rNeW K (.ref D) (.ref q) H R := by
  subst hz
  have lay : (PyData.list [.str (S l), .str (S l), .str (S l)]).canLay0 = true := by simp only [PyData.canLay0, PyData.canLayAll0, ok, Bool.and_self]
  refine ⟨_, _, rep3_dp h1, rep3_dp h2, lay, lay, by simp [PyData.depth, PyData.depthAll], ?_⟩
  rw [rep3_eq]
  exact hr
theorem eq_rep3 {K : PySem.W.Frag} {H : Hp} {D q : Addr} {l : List Nat} {z : Str} {R : VK} (hz : z = S l) (ok : PyData.strOk (S l) = true) (h1 : H D = some (.lst (List.replicate 3 (.str (S l))))) (h2 : H q = some (.lst (List.replicate (Int.toNat 3) [V.str z]).flatten)) (hr : R (.bl true) H) : rEqW K (.ref D) (.ref q) H R := by
  subst hz
  have lay : (PyData.list [.str (S l), .str (S l), .str (S l)]).canLay0 = true := by simp only [PyData.canLay0, PyData.canLayAll0, ok, Bool.and_self]
  refine ⟨_, _, rep3_dp h1, rep3_dp h2, lay, lay, by simp [PyData.depth, PyData.depthAll], ?_⟩
  rw [rep3_eq]
  exact hr
def noT : List Nat := [60, 110, 111, 32, 116, 101, 120, 116, 62]
theorem ang_no : ang (Str.ofString "no text") = S noT := by unfold ang; decide +kernel
theorem noT_lit : Str.ofString "<no text>" = S noT := by decide +kernel
theorem lt_lit : Str.ofString "<" = S [60] := by decide +kernel
theorem asg_of {te : TE} {j : Nat} {D : Ends} {σ : L2.St} {H : Hp} (h : te σ H fun v H1 => D.nx (σ.set j (some v)) H1) : tAsg te (gName j) D σ H := h
end WW

set_option maxHeartbeats 4000000
namespace WW
open PySem PySem.Spec PyProof.Rows L2
local macro_rules | `(tactic| walk_at "x") => `(tactic| simp only [tSeq, tNext, tAsg, gName, tRet, tRetN, tIfS, tOp, tUn, rI, rI0, rU, tTest, tB, tAnd, tOr, tNot, tAndV, tOrV, tNotV, tIf, tCons, tNil, tTup, tLst, tCall, tCallS, tMeth, tMake, tFld, sFld, tBM, tBM0, tCB, tSl, tPart, tNoPart, tDrop, tPar, tPar3, tAug, ipI, gTup, gCons, gNil, gSub, rSetL, rAppend, rPop, rIxL, rIxS, rIxT, rEq, rNe, tChain, tNever, tThen, tVar, tC, L2.start, List.map_cons, List.map_nil, List.length_cons, List.length_nil, List.replicate_succ, List.replicate_zero, List.append_nil, List.nil_append, List.cons_append, Nat.reduceAdd, Nat.reduceSub, Nat.add_zero, Nat.zero_add, Nat.sub_zero, Nat.sub_self,
  List.getElem?_cons_zero, List.getElem?_cons_succ, Option.some.injEq, exists_eq_left', exists_eq_left, exists_eq', exists_eq, exists_and_left, List.set_cons_zero, List.set_cons_succ, V.int.injEq, V.bl.injEq, V.str.injEq, V.ref.injEq, V.ty.injEq, List.cons.injEq, and_true, true_and, and_assoc, if_true, if_false, Bool.false_eq_true, reduceCtorEq, false_and, and_false, exists_false, false_or, or_false, Bool.not_true, Bool.not_false, decide_eq_true_eq, ite_true, ite_false, WE, cxOf_K, cxOf_mg, rSlS, scal, wipe, mem_low, mem_dig, mem_brk, mem_brk4, sgn_inj, Bool.decide_eq_true])

def spLaw (K : PySem.W.Frag) : Sp := fun vs H Q _ => ∃ (a : Addr) (ns : List Int), vs = [.ref a] ∧ ns.length ≤ 63 ∧ SqL K H a (ns.map V.int) ∧ ∀ H', Q (.bl true) H'
def Le (a dr p : Addr) (es : List Ent) (σ : L2.St) : Prop := ∃ y2 y3 y4 y7 y8 y9 y10 y11 y12 y13 y14 y15 y16 y17 y18 : Option V, σ = [some (.ref a), some (.ref dr), y2, y3, y4, some (.ref p), some (.str (S (txtA es))), y7, y8, y9, y10, y11, y12, y13, y14, y15, y16, y17, y18]
theorem Le.of {a dr p : Addr} {es : List Ent} {z : Str} {y2 y3 y4 y7 y8 y9 y10 y11 y12 y13 y14 y15 y16 y17 y18 : Option V} (h : z = S (txtA es)) : Le a dr p es [some (.ref a), some (.ref dr), y2, y3, y4, some (.ref p), some (.str z), y7, y8, y9, y10, y11, y12, y13, y14, y15, y16, y17, y18] := by
  subst h
  exact ⟨_, _, _, _, _, _, _, _, _, _, _, _, _, _, _, rfl⟩
def Lt (a dr : Addr) (T : List Nat) (σ : L2.St) : Prop := ∃ y2 y3 y4 y5 y7 y8 y9 y10 y11 y12 y13 y14 y15 y16 y17 y18 : Option V, σ = [some (.ref a), some (.ref dr), y2, y3, y4, y5, some (.str (S T)), y7, y8, y9, y10, y11, y12, y13, y14, y15, y16, y17, y18]
def Lb (g B : Addr) (σ : L2.St) : Prop := ∃ y0 y1 y2 y5 y6 y7 y8 y9 y10 y11 y12 y13 y14 y15 y16 y17 y18 : Option V, σ = [y0, y1, y2, some (.ref g), some (.ref B), y5, y6, y7, y8, y9, y10, y11, y12, y13, y14, y15, y16, y17, y18]
def L19 (σ : L2.St) : Prop := ∃ y0 y1 y2 y3 y4 y5 y6 y7 y8 y9 y10 y11 y12 y13 y14 y15 y16 y17 y18 : Option V, σ = [y0, y1, y2, y3, y4, y5, y6, y7, y8, y9, y10, y11, y12, y13, y14, y15, y16, y17, y18]
def Bds (K : PySem.W.Frag) (H : Hp) (g B : Addr) : Prop := EvV K H (.ref g) gev ∧ ∃ vs, H B = some (.lst vs) ∧ vs.length ≤ 50 ∧ ∀ v ∈ vs, BadV K H v
def Lz (a dr : Addr) (σ : L2.St) : Prop := ∃ y2 y3 y4 y5 y6 y7 y8 y9 y10 y11 y12 y13 y14 y15 y16 y17 y18 : Option V, σ = [some (.ref a), some (.ref dr), y2, y3, y4, y5, y6, y7, y8, y9, y10, y11, y12, y13, y14, y15, y16, y17, y18]
section
variable {P : Program} {w : World} {K : PySem.W.Frag} {mg : Str → Option Value}
theorem o_law (W : Wd fa fn K mg) : ∃ fd, FunD K d_law.name d_law.qual d_law.params d_law.body d_law.scope [] (d_law.kws K) (He.fAd K d_law.at_) fd ∧ ∀ base : Heap, LawOk P w K mg base (He.fAd K d_law.at_) "script" fd (spLaw K) := by
  refine okLaw W (d := d_law) 28 (k := 10) sc_law ⟨rfl, by decide, by decide⟩ rfl rfl ?len (fun base cdv s H vs Q E hr nd hu tk po h => ?body)
  case len =>
    rintro vs H Q E ⟨_, _, rfl, _⟩
    rfl
  case body =>
    have o__law_draw := (o__law_draw (P := P) (w := w) (base := base) W).mono (show 1 ≤ 10 by decide)
    have o__law_take := (o__law_take (P := P) (w := w) (base := base) W).mono (show 1 ≤ 10 by decide)
    have o__law_data := (o__law_data (P := P) (w := w) (base := base) W 4).mono (show 4 + 1 ≤ 10 by decide)
    have o__law_told := (o__law_told (P := P) (w := w) (base := base) W).mono (show 7 ≤ 10 by decide)
    have o__law_fits := (o__law_fits (P := P) (w := w) (base := base) W).mono (show 4 ≤ 10 by decide)
    have o__law_due := (o__law_due (P := P) (w := w) (base := base) W).mono (show 6 ≤ 10 by decide)
    have o_write_data := (o_write_data (P := P) (w := w) (base := base) W).mono (show 3 ≤ 10 by decide)
    have o_Reply___init__ := (o_Reply___init__ (P := P) (w := w) (base := base) W)
    obtain ⟨fd_Reply___init__, F_Reply___init__, b_Reply___init__, ⟨d1_Reply___init__, v1_Reply___init__, b1_Reply___init__⟩, ⟨d2_Reply___init__, v2_Reply___init__, b2_Reply___init__⟩⟩ := o_Reply___init__.ex; obtain ⟨fd__law_draw, F__law_draw, b__law_draw, k__law_draw⟩ := o__law_draw.ex; obtain ⟨fd__law_take, F__law_take, b__law_take, k__law_take⟩ := o__law_take.ex; obtain ⟨fd__law_data, F__law_data, b__law_data, k__law_data⟩ := o__law_data.ex; obtain ⟨fd_write_data, F_write_data, b_write_data, k_write_data⟩ := o_write_data.ex; obtain ⟨fd__law_told, F__law_told, b__law_told, k__law_told⟩ := o__law_told.ex; obtain ⟨fd__law_fits, F__law_fits, b__law_fits, k__law_fits⟩ := o__law_fits.ex; obtain ⟨fd__law_due, F__law_due, b__law_due, k__law_due⟩ := o__law_due.ex
    refine ⟨_, (pss_cons (ps_set (i := 1) nd rfl (by first | exact Or.inl rfl | exact Or.inr rfl) (by exact (pe_callS F__law_draw (hr.mono (by first | decide | omega)) rfl (W.glo 47) k__law_draw b__law_draw (fun σ => passAt tk σ) (by exact (pa_cons (pv 0) pa_nil)))))
    (Evl.pss_cut (ps_for po rfl (pi_range1 rfl (W.free 13) (pa_cons pe_int pa_nil)) (pg_name (i := 2) nd rfl (by first | exact Or.inl rfl | exact Or.inr rfl))
      (pss_cons (ps_par (i := 5) (j := 6) (by rfl) nd rfl rfl (by decide) rfl rfl (pa_cons (pe_lst pa_nil) (pa_cons pe_str pa_nil)) (by rfl))
    (pss_cons (ps_for po rfl (pi_range1 rfl (W.free 13) (pa_cons (by exact (pe_callS F__law_take (hr.mono (by first | decide | omega)) rfl (W.glo 40) k__law_take b__law_take (fun σ => passAt tk σ) (by exact (pa_cons (pv 1) (pa_cons pe_int pa_nil))))) pa_nil)) (pg_name (i := 7) nd rfl (by first | exact Or.inl rfl | exact Or.inr rfl))
      (pss_cons (ps_par3 (i := 10) (j := 11) (l := 12) (by rfl) nd rfl rfl rfl (by decide) (by decide) (by decide) rfl rfl rfl (pa_cons (pe_ix ix_list (pe_lst (pa_cons pe_str (pa_cons pe_str (pa_cons pe_str (pa_cons pe_str pa_nil))))) (by exact (pe_callS F__law_take (hr.mono (by first | decide | omega)) rfl (W.glo 40) k__law_take b__law_take (fun σ => passAt tk σ) (by exact (pa_cons (pv 1) (pa_cons pe_int pa_nil))))) (fun _ _ => rfl)) (pa_cons (pe_ix ix_list (pe_lst (pa_cons pe_str (pa_cons pe_str (pa_cons pe_str pa_nil)))) (by exact (pe_callS F__law_take (hr.mono (by first | decide | omega)) rfl (W.glo 40) k__law_take b__law_take (fun σ => passAt tk σ) (by exact (pa_cons (pv 1) (pa_cons pe_int pa_nil))))) (fun _ _ => rfl)) (pa_cons (pe_ix ix_list (pe_lst (pa_cons pe_str (pa_cons pe_str (pa_cons pe_str pa_nil)))) (by exact (pe_callS F__law_take (hr.mono (by first | decide | omega)) rfl (W.glo 40) k__law_take b__law_take (fun σ => passAt tk σ) (by exact (pa_cons (pv 1) (pa_cons pe_int pa_nil))))) (fun _ _ => rfl)) pa_nil))) (by rfl))
    (pss_cons (ps_set (i := 13) nd rfl (by first | exact Or.inl rfl | exact Or.inr rfl) (pe_callTy call_tuple_of (by rfl) (W.free 4) (by decide +kernel) (pa_cons (pe_lc (own := [("i", 14)]) (g := (gName 14)) (tt := tYes) rfl nd (pi_range1 rfl (W.free 13) (pa_cons (by exact (pe_callS F__law_take (hr.mono (by first | decide | omega)) rfl (W.glo 40) k__law_take b__law_take (fun σ => passAt tk σ) (by exact (pa_cons (pv 1) (pa_cons pe_int pa_nil))))) pa_nil)) (blkOk_by (own := [("i", 14)]) (N := ["script", "draw", "turn", "good", "bads", "entries", "text", "k", "held", "again", "line", "kind", "more", "data", "i", "sign", "other", "value", "bad"]) (sc := defScope s_law) (by decide +kernel)) (fun _ _ _ _ _ => (pg_name (i := 14) nd rfl (by first | exact Or.inl rfl | exact Or.inr rfl))) (fun _ _ _ _ _ => pts_nil) (fun _ _ _ _ _ => (pe_call F__law_data (hr.mono (by first | decide | omega)) rfl (W.glo 41) k__law_data b__law_data .nil passL (pa_cons (pv 1) (pa_cons pe_int pa_nil))))) pa_nil)))
    (pss_cons (ps_expr (pe_bm PySem.F.plainAttrs_list PySem.F.slot_list_append PySem.F.type_list_append mt_append (pv 5) (pa_cons (pe_tup (pa_cons (pv 10) (pa_cons (pe_make (W.mkr 37) F_Reply___init__ (hr.mono (by first | decide | omega)) rfl (W.glo 32) b_Reply___init__ .nil passL (pa_cons (pv 11) (pa_cons (pv 12) (pa_cons (pv 13) pa_nil)))) pa_nil))) pa_nil)))
    (pss_one (ps_set (i := 6) nd rfl (by first | exact Or.inl rfl | exact Or.inr rfl) (pe_op op_add_str (pe_op op_add_str (pe_op op_add_str (pe_op op_add_str (pe_op op_add_str (pe_op op_add_str (pe_op op_add_str (pe_op op_add_str (pe_op op_add_str (pv 6) pe_str) (pv 10)) pe_str) (pv 11)) pe_str) (pv 12)) pe_str) (by exact (pe_callS F_write_data (hr.mono (by first | decide | omega)) rfl (W.glo 34) k_write_data b_write_data (fun σ => passAt tk σ) (by exact (pa_cons (pv 13) pa_nil))))) pe_str)))))))
    (pss_cons (ps_set (i := 8) nd rfl (by first | exact Or.inl rfl | exact Or.inr rfl) (pe_op op_cat (pv 5) (pe_lst pa_nil)))
    (pss_cons (ps_if (PW.pt (pw_or (pt_cmpR op_ne (by exact (pe_callS F__law_told (hr.mono (by first | decide | omega)) rfl (W.glo 46) k__law_told b__law_told (fun σ => passAt tk σ) (by exact (pa_cons pe_int (pa_cons (pv 5) pa_nil))))) (pv 6) (nomark _)) (pw_or (pt_not (pt_val (by exact (pe_callS F__law_fits (hr.mono (by first | decide | omega)) rfl (W.glo 48) k__law_fits b__law_fits (fun σ => passAt tk σ) (by exact (pa_cons (by exact (pe_callS F__law_told (hr.mono (by first | decide | omega)) rfl (W.glo 46) k__law_told b__law_told (fun σ => passAt tk σ) (by exact (pa_cons pe_int (pa_cons (pv 6) pa_nil))))) (pa_cons (by exact (pe_callS F__law_due (hr.mono (by first | decide | omega)) rfl (W.glo 49) k__law_due b__law_due (fun σ => passAt tk σ) (by exact (pa_cons (pv 6) pa_nil)))) pa_nil))))))) (pw_or (pt_cmpR op_ne (pe_callB call_len (by rfl) (W.free 3) (by decide +kernel) (pa_cons (by exact (pe_callS F__law_told (hr.mono (by first | decide | omega)) rfl (W.glo 46) k__law_told b__law_told (fun σ => passAt tk σ) (by exact (pa_cons pe_int (pa_cons (pv 6) pa_nil))))) pa_nil)) (pe_callB call_len (by rfl) (W.free 3) (by decide +kernel) (pa_cons (pv 5) pa_nil)) (nomark _)) (pw_or1 (pt_cmpR (op_neSame hr.units0) (pv 5) (pv 8) (nomark _))))))) (pss_one (ps_ret pe_bl)) pss_nil)
    (pss_one (ps_for po rfl (pi_range1 rfl (W.free 13) (pa_cons pe_int pa_nil)) (pg_name (i := 9) nd rfl (by first | exact Or.inl rfl | exact Or.inr rfl))
      (pss_cons (ps_par (i := 14) (j := 15) (by rfl) nd rfl rfl (by decide) rfl rfl (pa_cons (by exact (pe_callS F__law_take (hr.mono (by first | decide | omega)) rfl (W.glo 40) k__law_take b__law_take (fun σ => passAt tk σ) (by exact (pa_cons (pv 1) (pa_cons (pe_op op_add (pe_callB call_len (by rfl) (W.free 3) (by decide +kernel) (pa_cons (pv 6) pa_nil)) pe_int) pa_nil))))) (pa_cons (pe_ix ix_list (pe_lst (pa_cons pe_str (pa_cons pe_str (pa_cons pe_str (pa_cons pe_str (pa_cons pe_str (pa_cons pe_str (pa_cons pe_str (pa_cons pe_str pa_nil))))))))) (by exact (pe_callS F__law_take (hr.mono (by first | decide | omega)) rfl (W.glo 40) k__law_take b__law_take (fun σ => passAt tk σ) (by exact (pa_cons (pv 1) (pa_cons pe_int pa_nil))))) (fun _ _ => rfl)) pa_nil)) (by rfl))
    (pss_one (ps_for po rfl (pi_list (pe_lst (pa_cons (pe_op op_add_str (pe_op op_add_str (pe_slice sl_str (pv 6) po_none (po_some (pv 14))) (pv 15)) (pe_slice sl_str (pv 6) (po_some (pv 14)) po_none)) (pa_cons (pe_op op_add_str (pe_slice sl_str (pv 6) po_none (po_some (pv 14))) (pe_slice sl_str (pv 6) (po_some (pe_op op_add (pv 14) pe_int)) po_none)) (pa_cons (pe_slice sl_str (pv 6) po_none (po_some (pv 14))) (pa_cons (pe_op op_add_str (pv 6) pe_str) (pa_cons (pe_op op_add_str (pv 6) pe_str) pa_nil))))))) (pg_name (i := 16) nd rfl (by first | exact Or.inl rfl | exact Or.inr rfl))
      (pss_one (ps_if (pt_not (pt_val (by exact (pe_callS F__law_fits (hr.mono (by first | decide | omega)) rfl (W.glo 48) k__law_fits b__law_fits (fun σ => passAt tk σ) (by exact (pa_cons (by exact (pe_callS F__law_told (hr.mono (by first | decide | omega)) rfl (W.glo 46) k__law_told b__law_told (fun σ => passAt tk σ) (by exact (pa_cons pe_int (pa_cons (pv 16) pa_nil))))) (pa_cons (by exact (pe_callS F__law_due (hr.mono (by first | decide | omega)) rfl (W.glo 49) k__law_due b__law_due (fun σ => passAt tk σ) (by exact (pa_cons (pv 16) pa_nil)))) pa_nil))))))) (pss_one (ps_ret pe_bl)) pss_nil))))))))))))
    (pss_cons (ps_set (i := 3) nd rfl (by first | exact Or.inl rfl | exact Or.inr rfl) (pe_tup (pa_cons pe_str (pa_cons (pe_make (W.mkr 37) F_Reply___init__ (hr.mono (by first | decide | omega)) rfl (W.glo 32) b1_Reply___init__ v1_Reply___init__ passL (pa_cons pe_str pa_nil)) pa_nil))))
    (Evl.pss_cut (ps_set (i := 4) nd rfl (by first | exact Or.inl rfl | exact Or.inr rfl) (pe_lst (pa_cons pe_non (pa_cons (pe_tup (pa_cons pe_str pa_nil)) (pa_cons (pe_lst (pa_cons pe_str (pa_cons (pe_make (W.mkr 37) F_Reply___init__ (hr.mono (by first | decide | omega)) rfl (W.glo 32) b1_Reply___init__ v1_Reply___init__ passL (pa_cons pe_str pa_nil)) pa_nil))) (pa_cons (pe_tup (pa_cons pe_non (pa_cons (pe_make (W.mkr 37) F_Reply___init__ (hr.mono (by first | decide | omega)) rfl (W.glo 32) b1_Reply___init__ v1_Reply___init__ passL (pa_cons pe_str pa_nil)) pa_nil))) (pa_cons (pe_tup (pa_cons pe_str (pa_cons (pe_make (W.mkr 37) F_Reply___init__ (hr.mono (by first | decide | omega)) rfl (W.glo 32) b1_Reply___init__ v1_Reply___init__ passL (pa_cons pe_str pa_nil)) pa_nil))) (pa_cons (pe_tup (pa_cons pe_str (pa_cons (pe_tup (pa_cons pe_str (pa_cons pe_str (pa_cons (pe_tup pa_nil) pa_nil)))) pa_nil))) (pa_cons (pe_tup (pa_cons pe_str (pa_cons (pe_make (W.mkr 37) F_Reply___init__ (hr.mono (by first | decide | omega)) rfl (W.glo 32) b1_Reply___init__ v1_Reply___init__ passL (pa_cons pe_str pa_nil)) pa_nil))) pa_nil)))))))))
    (Evl.pss_cut (ps_set (i := 4) nd rfl (by first | exact Or.inl rfl | exact Or.inr rfl) (pe_op op_cat (pv 4) (pe_lst (pa_cons (pe_tup (pa_cons pe_str (pa_cons (pe_make (W.mkr 37) F_Reply___init__ (hr.mono (by first | decide | omega)) rfl (W.glo 32) b2_Reply___init__ v2_Reply___init__ passL (pa_cons pe_str (pa_cons pe_non pa_nil))) pa_nil))) (pa_cons (pe_tup (pa_cons pe_str (pa_cons (pe_make (W.mkr 37) F_Reply___init__ (hr.mono (by first | decide | omega)) rfl (W.glo 32) b2_Reply___init__ v2_Reply___init__ passL (pa_cons pe_str (pa_cons pe_str pa_nil))) pa_nil))) (pa_cons (pe_tup (pa_cons pe_str (pa_cons (pe_make (W.mkr 37) F_Reply___init__ (hr.mono (by first | decide | omega)) rfl (W.glo 32) b_Reply___init__ .nil passL (pa_cons pe_str (pa_cons pe_str (pa_cons (pe_lst pa_nil) pa_nil)))) pa_nil))) (pa_cons (pe_tup (pa_cons pe_str (pa_cons (pe_make (W.mkr 37) F_Reply___init__ (hr.mono (by first | decide | omega)) rfl (W.glo 32) b_Reply___init__ .nil passL (pa_cons pe_str (pa_cons pe_str (pa_cons (pe_tup (pa_cons pe_non pa_nil)) pa_nil)))) pa_nil))) pa_nil)))))))
    (Evl.pss_cut (ps_if (PW.pt (pw_or (pt_val (pe_callB (cr_any rfl) (by rfl) (W.free 50) (by decide +kernel) (pa_cons (pe_lc (own := [("bad", 18)]) (g := (gName 18)) (tt := tYes) rfl nd (pi_list (pv 4)) (blkOk_by (own := [("bad", 18)]) (N := ["script", "draw", "turn", "good", "bads", "entries", "text", "k", "held", "again", "line", "kind", "more", "data", "i", "sign", "other", "value", "bad"]) (sc := defScope s_law) (by decide +kernel)) (fun _ _ _ _ _ => (pg_name (i := 18) nd rfl (by first | exact Or.inl rfl | exact Or.inr rfl))) (fun _ _ _ _ _ => pts_nil) (fun _ _ _ _ _ => (pe_cmpR op_ne (pe_slice sl_str (pe_call F__law_told (hr.mono (by first | decide | omega)) rfl (W.glo 46) k__law_told b__law_told .nil passL (pa_cons pe_int (pa_cons (pe_lst (pa_cons (pv 3) (pa_cons (pv 18) pa_nil))) pa_nil))) po_none (po_some pe_int)) pe_str (nomark _)))) pa_nil))) (pw_or1 (pt_cmpR (op_neW hr.units) (pe_lc (own := [("value", 17)]) (g := (gName 17)) (tt := tYes) rfl nd (pi_list (pe_lst (pa_cons pe_non (pa_cons pe_int (pa_cons (pe_tup pa_nil) pa_nil))))) (blkOk_by (own := [("value", 17)]) (N := ["script", "draw", "turn", "good", "bads", "entries", "text", "k", "held", "again", "line", "kind", "more", "data", "i", "sign", "other", "value", "bad"]) (sc := defScope s_law) (by decide +kernel)) (fun _ _ _ _ _ => (pg_name (i := 17) nd rfl (by first | exact Or.inl rfl | exact Or.inr rfl))) (fun _ _ _ _ _ => pts_nil) (fun _ _ _ _ _ => (pe_slice sl_str (pe_call F__law_told (hr.mono (by first | decide | omega)) rfl (W.glo 46) k__law_told b__law_told .nil passL (pa_cons pe_int (pa_cons (pv 17) pa_nil))) po_none (po_some pe_int)))) (pe_op op_rep (pe_lst (pa_cons pe_str pa_nil)) pe_int) (nomark _))))) (pss_one (ps_ret pe_bl)) pss_nil)
    (pss_cons (ps_if (PW.pt (pw_or (pt_cmpR op_ne (by exact (pe_callS F__law_told (hr.mono (by first | decide | omega)) rfl (W.glo 46) k__law_told b__law_told (fun σ => passAt tk σ) (by exact (pa_cons pe_int (pa_cons (pe_lst pa_nil) pa_nil))))) pe_str (nomark _)) (pw_or1 (pt_cmpR (op_neW hr.units) (by exact (pe_callS F__law_told (hr.mono (by first | decide | omega)) rfl (W.glo 46) k__law_told b__law_told (fun σ => passAt tk σ) (by exact (pa_cons pe_int (pa_cons pe_str pa_nil))))) (pe_lst pa_nil) (nomark _))))) (pss_one (ps_ret pe_bl)) pss_nil)
    (pss_one (ps_ret (pe_cmpR (op_eqW hr.units) (pe_lc (own := [("value", 17)]) (g := (gName 17)) (tt := tYes) rfl nd (pi_list (pe_lst (pa_cons pe_non (pa_cons pe_int (pa_cons (pe_lst (pa_cons pe_str pa_nil)) pa_nil))))) (blkOk_by (own := [("value", 17)]) (N := ["script", "draw", "turn", "good", "bads", "entries", "text", "k", "held", "again", "line", "kind", "more", "data", "i", "sign", "other", "value", "bad"]) (sc := defScope s_law) (by decide +kernel)) (fun _ _ _ _ _ => (pg_name (i := 17) nd rfl (by first | exact Or.inl rfl | exact Or.inr rfl))) (fun _ _ _ _ _ => pts_nil) (fun _ _ _ _ _ => (pe_call F__law_told (hr.mono (by first | decide | omega)) rfl (W.glo 46) k__law_told b__law_told .nil passL (pa_cons pe_int (pa_cons (pv 17) pa_nil))))) (pe_op op_rep (pe_lst (pa_cons pe_str pa_nil)) pe_int) (nomark _))))))))))), ?_⟩
    obtain ⟨a, ns, rfl, hl, hs, hq⟩ := h
    clear tk po
    refine seq_of (asg_call (vs := [.ref a]) (fun R h => ⟨_, rfl, h⟩) ⟨a, ns, rfl, hs, hl, fun dr cs H1 sm0 hdr0 hcs0 hD => ?_⟩)
    simp only [L2.start, List.map_cons, List.map_nil, List.length_cons, List.length_nil, List.replicate_succ, List.replicate_zero, List.append_nil, List.nil_append, List.cons_append, Nat.reduceAdd, Nat.reduceSub, List.set_cons_zero, List.set_cons_succ]
    refine cut_of (fun σ H' => ∃ y0 y1 y2 y3 y4 y5 y6 y7 y8 y9 y10 y11 y12 y13 y14 y15 y16 y17 y18 : Option V, σ = [y0, y1, y2, y3, y4, y5, y6, y7, y8, y9, y10, y11, y12, y13, y14, y15, y16, y17, y18]) ?_ ?_
    · refine tFor_same (walk_range (lo := 0) (n := 4)) ?_ (fun i σ H' => Lz a dr σ ∧ Dr H' dr cs) ⟨⟨_, _, _, _, _, _, _, _, _, _, _, _, _, _, _, _, _, rfl⟩, hD⟩ (fun _ _ _ _ _ => trivial) ?_ ?_
      · intro R hR
        simp only [iRng1]
        walk_at "x"
        exact ⟨by decide, by decide, hR⟩
      · rintro i x σ H2x H2 hi ⟨⟨y2, y3, y4, y5, y6, y7, y8, y9, y10, y11, y12, y13, y14, y15, y16, y17, y18, rfl⟩, hD2⟩ ⟨rfl, rfl⟩
        walk_at "x"
        refine ⟨by decide, fun p hp => ?_⟩
        have kp0 : Kp dr cs H2 (upd H2 p (.lst [])) := (Kp.refl hD2).new hp
        have npd : p ≠ dr := fun e => by
          obtain ⟨ns, p1, q1, sd, g, _, _⟩ := hD2
          rw [e, g.d] at hp
          cases hp
        refine tFor_r (fun n H' => n < 4 ∧ Kp dr cs (upd H2 p (.lst [])) H') ?_ (fun n i σ H' => n < 4 ∧ ∃ es vs, Le a dr p es σ ∧ es.length = i ∧ Kp dr cs H2 H' ∧ H' p = some (.lst vs) ∧ EsE K H' vs es) ?_ ?_ ?_
        · intro R hR
          simp only [iRng1]
          walk_at "x"
          refine ⟨dr, cs, 4, rfl, by decide, by decide, kp0.2, fun a H2 ha fr2 hD2 => ⟨_, rfl, by omega, by omega, ?_⟩⟩
          rw [Int.toNat_natCast]
          exact hR a H2 ⟨by omega, Kp.of fr2 hD2⟩
        · rintro n H3 ⟨hn, kp3⟩
          have hp3 : H3 p = some (.lst []) := kp3.1 p _ npd upd_same
          exact ⟨hn, [], [], ⟨_, _, _, _, _, _, _, _, _, _, _, _, _, _, _, rfl⟩, rfl, kp0.trans kp3, hp3, rfl, (fun _ _ h => nomatch h), fun _ h => nomatch h⟩
        · rintro n j σ H4 hj ⟨hn, es, vs, ⟨y2, y3, y4, y7, y8, y9, y10, y11, y12, y13, y14, y15, y16, y17, y18, rfl⟩, hel, kp4, hp4, hes⟩
          refine seq_of ?_
          refine pick (xs := [.str (Str.ofString ""), .str (Str.ofString "reckon"), .str (Str.ofString "# a"), .str (Str.ofString "> x")]) (n := 4) rfl kp4.2 (fun R h => h) (by decide) rfl (by decide) fun v1 hv1 H5 kp5 => ?_
          refine pick (xs := [.str (Str.ofString "a"), .str (Str.ofString "error"), .str (Str.ofString "x9")]) (n := 3) rfl kp5.2 (fun R h => h) (by decide) rfl (by decide) fun v2 hv2 H6 kp6 => ?_
          refine pick (xs := [.str (Str.ofString ""), .str (Str.ofString "no"), .str (Str.ofString " 1 2")]) (n := 3) rfl kp6.2 (fun R h => h) (by decide) rfl (by decide) fun v3 hv3 H7 kp7 => ?_
          obtain ⟨l, hl4, rfl⟩ := lits1 v1 hv1
          obtain ⟨k, hk3, rfl⟩ := lits2 v2 hv2
          obtain ⟨m, hm3, rfl⟩ := lits3 v3 hv3
          refine ⟨_, _, _, rfl, ?_⟩
          walk_at "x"
          refine data_ok kp7.2 fun D dvs ds H8 kp8 hD8 hdp hdl hg => ?_
          refine ⟨D, rfl, dvs, .inl ⟨SqL.of hD8, fun dt hdt => ?_⟩⟩
          have ok : Ent.ok ⟨l, k, m, .tuple ds⟩ := ⟨hl4, hk3, hm3, .tup hdl hg, rfl⟩
          have g4 : Gen 4 (.tuple ds) := ok.2.2.2.1
          have kp48 := kp5.trans (kp6.trans (kp7.trans kp8))
          have hes8 := hes.tr (Tr.kp kp4.2 kp48)
          have hp8 : H8 p = some (.lst vs) := kp48.1 p _ npd hp4
          have s9 := Same.new (o := .tup dvs) hdt
          have hd9 : Dp K (upd H8 dt (.tup dvs)) (.ref dt) (.tuple ds) := .tup (SqT.of upd_same) (DpAll.tx (Tx.of s9) (immAllG ds fun d hd => (hg d hd).imm) hdp)
          refine ⟨tyLst (s9 _ _ hp8), fun r dx hr hdx ne => ⟨r, dx, .str (S k), .str (S m), .ref dt, rfl, upd_same, rfl, by decide, fun b hb => ?_⟩⟩
          rw [upd_upd] at hb ⊢
          have nbr : b ≠ r := fun e => by rw [e, upd_same] at hb; cases hb
          generalize hH9 : upd H8 dt (.tup dvs) = H9 at s9 hd9 hr hdx hb ⊢
          have s10 : Same H9 (upd (upd H9 dx (.own r)) r (.ins (cRep K) dx (repF (.str (S k)) (.str (S m)) (.ref dt)))) := Same.mut (Same.new hdx) hr
          generalize hH10 : upd (upd H9 dx (.own r)) r (.ins (cRep K) dx (repF (.str (S k)) (.str (S m)) (.ref dt))) = H10 at s10 hb ⊢
          have hr10 : H10 r = some (.ins (cRep K) dx (repF (.str (S k)) (.str (S m)) (.ref dt))) := by rw [← hH10, upd_same]
          have s11 := Same.new (o := .tup [.str (S l), .ref r]) hb
          have hb11 : SqT K (upd H10 b (.tup [.str (S l), .ref r])) b [.str (S l), .ref r] := SqT.of upd_same
          generalize hH11 : upd H10 b (.tup [.str (S l), .ref r]) = H11 at s11 hb11 ⊢
          have s811 := Same.trans s9 (Same.trans s10 s11)
          have hp11 := s811 _ _ hp8
          have e11 : EvE K H11 (.ref b) ⟨l, k, m, .tuple ds⟩ := ⟨b, r, dx, .ref dt, rfl, hb11, s11 _ _ hr10, Dp.sm (Same.trans s10 s11) _ _ hd9⟩
          have hes11 := (hes8.tr (Tr.same s811)).app ok e11
          have hes12 := hes11.tr (Tr.up (ys := vs ++ [.ref b]) hp11)
          have hd12 : Dp K (upd H11 p (.lst (vs ++ [.ref b]))) (.ref dt) (.tuple ds) := Dp.tx (Tr.up (ys := vs ++ [.ref b]) hp11).1 _ _ g4.imm (Dp.sm (Same.trans s10 s11) _ _ hd9)
          have kp12 : Kp dr cs H2 (upd H11 p (.lst (vs ++ [.ref b]))) := ((kp4.trans kp48).trans (Kp.same kp8.2 s811)).mut hD2 hp
          have szl := sizeLine_eq
          have tl := txtA_len es hes.2.2
          have hel3 : es.length ≤ 3 := by omega
          have a1 := (lines_ok _ hl4).2.2
          have a2 := (kinds_ok _ hk3).2.2
          have a3 := (mores_ok _ hm3).2.2
          have a4 := gen_len g4 (by decide)
          have q1 : Str.ofString "\n= " = S [10, 61, 32] := by decide +kernel
          have q2 : Str.ofString "\n# " = S [10, 35, 32] := by decide +kernel
          have q3 : (PyData.tuple ds) = Ent.d ⟨l, k, m, .tuple ds⟩ := rfl
          rw [m0_lit, sp_lit, nl_lit, q1, q2]
          simp only [strlen_app, len_S, List.length_cons, List.length_nil]
          have hvl := hes.1
          refine ⟨_, hp11, by omega, by omega, by omega, by omega, by omega, by omega, by omega, by omega, .ref dt, .tuple ds, rfl, hd12, (gen_small g4).1, Nat.le_trans (gen_small g4).2 (Nat.le_trans (sb_le 4 (by decide)) (by decide)), fun t ht => ?_, ?_⟩
          · rw [gen_wd g4 (by decide)] at ht
            cases ht
            omega
          rw [gen_wd g4 (by decide)]
          intro H13 s13
          refine ⟨_, rfl, by rw [len_S]; omega, by rw [len_S]; omega, hn, es ++ [⟨l, k, m, .tuple ds⟩], Le.of ?_, by simp [hel], kp12.trans (Kp.same kp12.2 s13), _, s13 _ _ upd_same, hes12.tr (Tr.same s13)⟩
          have et : txtA (es ++ [⟨l, k, m, .tuple ds⟩]) = txtA es ++ rowsE l k m (wT (.tuple ds)) := by simp [txtA, Ent.txt]
          rw [et]
          simp only [S_app, rowsE, List.append_assoc, List.cons_append, List.nil_append]
        · rintro n σ H4 ⟨hn, es, vs, ⟨y2, y3, y4, y7, y8, y9, y10, y11, y12, y13, y14, y15, y16, y17, y18, rfl⟩, hel, kp4, hp4, hes⟩
          have szl := sizeLine_eq
          have tl := txtA_len es hes.2.2
          obtain ⟨as, eas⟩ := hes.refs
          walk_at "x"
          refine ⟨by decide, fun q hq4 => ?_⟩
          have s5 := Same.new (o := .lst []) hq4
          refine ⟨p, q, _, _, rfl, rfl, s5 _ _ hp4, upd_same, by have := hes.1; simp; omega, fun hd hhd => ?_⟩
          have s6 := Same.trans s5 (Same.new (o := .lst (vs ++ [])) hhd)
          have hh6 : upd (upd H4 q (.lst [])) hd (.lst (vs ++ [])) hd = some (.lst vs) := by rw [upd_same, List.append_nil]
          generalize upd (upd H4 q (.lst [])) hd (.lst (vs ++ [])) = H6 at s6 hh6 ⊢
          have hp6 := s6 _ _ hp4
          have hes6 := hes.tr (Tr.same s6)
          refine told_txt hp6 hes6 (by omega) fun H7 s7 => ⟨rfl, iteF' (by simp) ?_⟩
          refine fits_ok (by rw [len_S]; omega) fun H8 s8 => ⟨_, rfl, iteF' (by simp) ?_⟩
          refine told_len hes.2.2 (by omega) fun pl vl H9 s9 hpl hvl => ?_
          have s69 := Same.trans s7 (Same.trans s8 s9)
          refine ⟨_, .inl ⟨_, SqL.of hpl, rfl⟩, _, .inl ⟨_, SqL.of (s69 _ _ hp6), rfl⟩, iteF' (by simp [hvl, hes.1]) ?_⟩
          refine ⟨p, hd, as, rfl, rfl, by rw [← eas]; exact s69 _ _ hp6, by rw [← eas]; exact s69 _ _ hh6, _, rfl, iteF' (by simp) ?_⟩
          have hD9 : Dr H9 dr cs := Dr.of_eq (Same.trans s6 s69) kp4.2
          have hT : (txtA es).length ≤ 12000 := by omega
          generalize txtA es = T at hT ⊢
          clear hes hes6 tl
          refine tFor_r (fun n H' => n = 6 ∧ H' = H9) ?_ (fun n i σ H' => n = 6 ∧ Lt a dr T σ ∧ Dr H' dr cs) ?_ ?_ ?_
          · intro R hR
            simp only [iRng1]
            walk_at "x"
            exact ⟨by decide, by decide, hR 6 _ ⟨rfl, rfl⟩⟩
          · rintro n H' ⟨rfl, rfl⟩
            exact ⟨rfl, ⟨_, _, _, _, _, _, _, _, _, _, _, _, _, _, _, _, rfl⟩, hD9⟩
          · rintro n i6 σ H10 hi6 ⟨rfl, ⟨y2, y3, y4, y5, y7, y8, y9, y10, y11, y12, y13, y14, y15, y16, y17, y18, rfl⟩, hD10⟩
            walk_at "x"
            refine ⟨_, ⟨by rw [len_S]; omega, by rw [len_S]⟩, dr, cs, (T.length : Int) + 1, rfl, by omega, by omega, hD10, fun n1 H11 hn1 fr11 hD11 => ?_⟩
            refine ⟨by decide, fun pl hpl => ?_⟩
            have kpl := (Kp.refl hD11).new (o := HO.lst signs8) hpl
            have npl : pl ≠ dr := fun e => by
              obtain ⟨ns, p1, q1, sd, g, _, _⟩ := hD11
              rw [e, g.d] at hpl
              cases hpl
            refine ⟨dr, cs, 8, rfl, by decide, by decide, kpl.2, fun n2 H12 hn2 fr12 hD12 => ?_⟩
            have hL : SqL K H12 pl signs8 := SqL.of (by rw [fr12 pl npl, upd_same]; rfl)
            have hn2' : n2 < signs8.length := by
              have : signs8.length = 8 := rfl
              omega
            have g2 : signs8[n2]? = some signs8[n2] := List.getElem?_eq_getElem hn2'
            obtain ⟨c, ec, hc⟩ := signs_ok _ (List.getElem_mem hn2')
            rw [ec] at g2
            refine ⟨_, _, rfl, hL, _, atI_nat g2, ?_⟩
            clear hL g2 ec hpl npl kpl hn2 hn2' fr12
            have e1 := cut_to (S T) n1
            have e2 := cut_from (S T) n1
            have e3 := cut_from (S T) (n1 + 1)
            rw [tl_S] at e1 e2 e3
            have e3' : cutS (S T) (some ((n1 : Int) + 1)) none = S (T.drop (n1 + 1)) := e3
            have tk : (T.take n1).length ≤ T.length := by rw [List.length_take]; omega
            have dk : (T.drop n1).length ≤ T.length := by rw [List.length_drop]; omega
            have td : (T.take n1).length + (T.drop n1).length = T.length := by rw [← List.length_append, List.take_append_drop]
            have dk1 : (T.drop (n1 + 1)).length ≤ (T.drop n1).length := by rw [List.length_drop, List.length_drop]; omega
            refine tFor_l (K := K) (xs := [.str (S (T.take n1 ++ c ++ T.drop n1)), .str (S (T.take n1 ++ T.drop (n1 + 1))), .str (S (T.take n1)), .str (S (T ++ [62, 32])), .str (S (T ++ [10]))]) ?_ (Lt a dr T) ⟨_, _, _, _, _, _, _, _, _, _, _, _, _, _, _, _, rfl⟩ ?_ ?_
            · intro R hR
              simp only [iList]
              walk_at "x"
              simp only [e1, e2, e3', m0_lit, nl_lit, S_app, len_S, List.length_append, List.length_cons, List.length_nil]
              exact ⟨by omega, by omega, by omega, by omega, by omega, by omega, by omega, by omega, by omega, by omega, by omega, fun p hp => ⟨⟨_, SqL.of upd_same⟩, hR p hp⟩⟩
            · rintro p5 i5 x σ H14 hp5 hx ⟨y2, y3, y4, y5, y7, y8, y9, y10, y11, y12, y13, y14, y15, y16, y17, y18, rfl⟩ s14
              have hx' := List.mem_of_getElem? hx
              obtain ⟨o, ho, rfl⟩ : ∃ o : List Nat, o.length ≤ 20000 ∧ x = .str (S o) := by
                simp only [List.mem_cons, List.not_mem_nil, or_false] at hx'
                rcases hx' with rfl | rfl | rfl | rfl | rfl
                · exact ⟨_, by simp only [List.length_append]; omega, rfl⟩
                · exact ⟨_, by simp only [List.length_append]; omega, rfl⟩
                · exact ⟨_, by omega, rfl⟩
                · exact ⟨_, by simp only [List.length_append, List.length_cons, List.length_nil]; omega, rfl⟩
                · exact ⟨_, by simp only [List.length_append, List.length_cons, List.length_nil]; omega, rfl⟩
              walk_at "x"
              exact fits_ok (by rw [len_S]; omega) fun H15 s15 => ⟨_, rfl, iteF' (by simp) ⟨⟨_, _, _, _, _, _, _, _, _, _, _, _, _, _, _, _, rfl⟩, Same.trans s14 s15⟩⟩
            · rintro σ H14 lt s14
              exact ⟨lt, Dr.of_eq s14 hD12⟩
          · rintro n σ H10 ⟨rfl, ⟨y2, y3, y4, y5, y7, y8, y9, y10, y11, y12, y13, y14, y15, y16, y17, y18, rfl⟩, hD10⟩
            exact ⟨⟨_, _, _, _, _, _, _, _, _, _, _, _, _, _, _, _, _, rfl⟩, hD10⟩
      · rintro σ H2 ⟨⟨y2, y3, y4, y5, y6, y7, y8, y9, y10, y11, y12, y13, y14, y15, y16, y17, y18, rfl⟩, hD2⟩
        exact ⟨_, _, _, _, _, _, _, _, _, _, _, _, _, _, _, _, _, _, _, rfl⟩
    · rintro σ H2 ⟨y0, y1, y2, y3, y4, y5, y6, y7, y8, y9, y10, y11, y12, y13, y14, y15, y16, y17, y18, rfl⟩
      walk_at "x"
      intro r dx hr hdx ne
      refine ⟨r, dx, .str (Str.ofString "done"), .str (Str.ofString ""), .ref (dflR K), rfl, upd_same, rfl, by decide, fun g hg => ?_⟩
      rw [upd_upd] at hg ⊢
      have szl := sizeLine_eq
      have hn := W.nil
      have s3 : Same H2 (upd (upd H2 dx (.own r)) r (.ins (cRep K) dx (repF (.str (Str.ofString "done")) (.str (Str.ofString "")) (.ref (dflR K))))) := Same.mut (Same.new hdx) hr
      have g3 : RepV K (upd (upd H2 dx (.own r)) r (.ins (cRep K) dx (repF (.str (Str.ofString "done")) (.str (Str.ofString "")) (.ref (dflR K))))) r (.str (Str.ofString "done")) (.str (Str.ofString "")) (.tuple []) := ⟨dx, _, _, _, upd_same, .str _, .str _, .tup (hn _) .nil⟩
      generalize upd (upd H2 dx (.own r)) r (.ins (cRep K) dx (repF (.str (Str.ofString "done")) (.str (Str.ofString "")) (.ref (dflR K)))) = H3 at s3 g3 hg ⊢
      have s4 := Same.new (o := .tup [.str (Str.ofString ""), .ref r]) hg
      have g4 : EvV K (upd H3 g (.tup [.str (Str.ofString ""), .ref r])) (.ref g) gev := ⟨g, _, _, rfl, SqT.of upd_same, .str _, r, rfl, g3.same s4⟩
      generalize upd H3 g (.tup [.str (Str.ofString ""), .ref r]) = H4 at g4 ⊢
      clear s4 hg g3 s3 hr hdx ne
      refine cut_of (fun σ H' => ∃ B, Lb g B σ ∧ EvV K H' (.ref g) gev ∧ ∃ vs, H' B = some (.lst vs) ∧ vs.length = 7 ∧ ∀ v ∈ vs, BadV K H' v) ?_ ?_
      · refine asg_of (mks_lst (bads1 hn) (by decide) fun B vs H5 s5 h1 hl hb => ?_)
        exact ⟨B, ⟨_, _, _, _, _, _, _, _, _, _, _, _, _, _, _, _, _, rfl⟩, g4.same s5, vs, h1, hl, hb⟩
      rintro σ H5 ⟨B, ⟨y0, y1, y2, y5, y6, y7, y8, y9, y10, y11, y12, y13, y14, y15, y16, y17, y18, rfl⟩, g5, vs, hB, hl7, hbv⟩
      refine cut_of (fun σ H' => ∃ B, Lb g B σ ∧ Bds K H' g B) ?_ ?_
      · refine asg_of ?_
        refine ⟨_, rfl, ?_⟩
        refine mks_lst (bads2 hn) (by decide) fun B2 vs2 H6 s6 h1 hl hb => ?_
        refine ⟨B, B2, vs, vs2, rfl, rfl, s6 _ _ hB, h1, by omega, fun B3 hB3 => ?_⟩
        have s7 := Same.new (o := .lst (vs ++ vs2)) hB3
        refine ⟨B3, ⟨_, _, _, _, _, _, _, _, _, _, _, _, _, _, _, _, _, rfl⟩, g5.same (Same.trans s6 s7), vs ++ vs2, upd_same, by rw [List.length_append]; omega, fun v hv => ?_⟩
        rcases List.mem_append.mp hv with hv | hv
        · exact (hbv v hv).same (Same.trans s6 s7)
        · exact (hb v hv).same s7
      rintro σ H6 ⟨B4, ⟨z0, z1, z2, z5, z6, z7, z8, z9, z10, z11, z12, z13, z14, z15, z16, z17, z18, rfl⟩, g6, ws, hB6, hl6, hbw⟩
      refine cut_of (fun σ H' => L19 σ) ?_ ?_
      · walk_at "x"
        refine tLc_l (K := K) (n := ws.length) (u := .bl false) (fun x H => EvV K H (.ref g) gev ∧ BadV K H x) (fun x H H' s q => ⟨q.1.same s, q.2.same s⟩) (by omega) ?_ (fun x => rfl) ?_ ?_
        · intro R hR
          simp only [iList]
          walk_at "x"
          exact ⟨⟨_, SqL.of hB6⟩, hR B4 ws H6 (Same.refl _) hB6 rfl fun x hx => ⟨g6, hbw x hx⟩⟩
        · rintro x H8 R ⟨c1, c2⟩ hR
          walk_at "x"
          refine ⟨by decide, fun p hp => ?_⟩
          have s9 := Same.new (o := .lst [.ref g, x]) hp
          refine told_bad upd_same (c1.same s9) (c2.same s9) fun z H9 hz s10 => ⟨_, rfl, by have := ang_len hz; omega, ?_⟩
          rw [ang_cut, lt_lit, decide_eq_true rfl]
          exact hR _ (Same.trans s9 s10)
        · rintro D H7 s7 hD7
          refine ⟨D, List.replicate ws.length false, rfl, SqL.of (by rw [List.map_replicate]; exact hD7), _, rfl, iteF' (by simp) ?_⟩
          refine tLc_l (K := K) (n := 3) (u := .str (S [60])) (fun x H => IsaV K H x "list" false) (fun x H H' s q => q.same s) (by decide) ?_ (fun x => rfl) ?_ ?_
          · intro R hR
            simp only [iList]
            walk_at "x"
            refine ⟨by decide, fun p1 hp1 => ⟨by decide, fun p2 hp2 => ⟨⟨_, SqL.of upd_same⟩, hR p2 _ _ (Same.trans (Same.new hp1) (Same.new hp2)) upd_same rfl fun x hx => ?_⟩⟩⟩
            simp only [List.mem_cons, List.not_mem_nil, or_false] at hx
            rcases hx with rfl | rfl | rfl
            · rfl
            · rfl
            · exact .inr ⟨[], SqT.of ((Same.new hp2) _ _ upd_same), rfl⟩
          · rintro x H8 R c1 hR
            walk_at "x"
            refine told_no c1 fun z H9 hz s10 => ⟨_, rfl, by have := ang_len hz; omega, ?_⟩
            rw [ang_cut]
            exact hR _ s10
          · rintro D3 H8 s8 hD8
            refine ⟨by decide, fun q hq => ⟨q, 3, _, rfl, rfl, upd_same, by decide, by decide, by simp; decide, fun q2 hq2 => ?_⟩⟩
            exact ne_rep3 lt_lit (by decide +kernel) ((Same.trans (Same.new hq) (Same.new hq2)) _ _ hD8) upd_same ⟨_, rfl, iteF' (by simp) ⟨_, _, _, _, _, _, _, _, _, _, _, _, _, _, _, _, _, _, _, rfl⟩⟩
      · rintro σ H7 ⟨w0, w1, w2, w3, w4, w5, w6, w7, w8, w9, w10, w11, w12, w13, w14, w15, w16, w17, w18, rfl⟩
        walk_at "x"
        refine ⟨by decide, fun p hp => ?_⟩
        have e0 : Str.ofString "" = S (txtA []) := empty_lit
        rw [e0]
        refine told_txt (es := []) (vs := []) upd_same ⟨rfl, (fun _ _ h => nomatch h), fun _ h => nomatch h⟩ (by decide) fun H8 s8 => ⟨rfl, iteF' (by simp) ?_⟩
        refine told_len (es := []) (fun _ h => nomatch h) (by decide) fun pl vl H9 s9 hpl hvl => ⟨by decide, fun p2 hp2 => ?_⟩
        have evl : vl = [] := List.eq_nil_of_length_eq_zero hvl
        subst evl
        refine ⟨.list [], .list [], .lst (SqL.of ((Same.new hp2) _ _ hpl)) .nil, .lst (SqL.of upd_same) .nil, rfl, rfl, by decide, _, rfl, iteF' (by simp [PyData.eqv, PyData.eqvAll]) ?_⟩
        refine tLc_l (K := K) (n := 3) (u := .str (S noT)) (fun x H => ∃ d, Dp K H x d ∧ ∀ z, d ≠ .str z) (fun x H H' s ⟨d, q1, q2⟩ => ⟨d, Dp.sm s _ _ q1, q2⟩) (by decide) ?_ (fun x => rfl) ?_ ?_
        · intro R hR
          simp only [iList]
          walk_at "x"
          refine ⟨by decide, fun p1 hp1 => ⟨by decide, fun p2 hp2 => ⟨⟨_, SqL.of upd_same⟩, hR p2 _ _ (Same.trans (Same.new hp1) (Same.new hp2)) upd_same rfl fun x hx => ?_⟩⟩⟩
          simp only [List.mem_cons, List.not_mem_nil, or_false] at hx
          rcases hx with rfl | rfl | rfl
          · exact ⟨_, .non, fun z e => nomatch e⟩
          · exact ⟨_, .int 5, fun z e => nomatch e⟩
          · exact ⟨_, .lst (SqL.of ((Same.new hp2) _ _ upd_same)) (.cons (.str _) .nil), fun z e => nomatch e⟩
        · rintro x H10 R ⟨d, c1, c2⟩ hR
          walk_at "x"
          refine told_notext c1 c2 fun H11 s11 => ?_
          rw [ang_no]
          exact hR _ s11
        · rintro D3 H10 s10 hD10
          refine ⟨by decide, fun q hq1 => ⟨q, 3, _, rfl, rfl, upd_same, by decide, by decide, by simp; decide, fun q2 hq2 => ?_⟩⟩
          exact eq_rep3 noT_lit (by decide +kernel) ((Same.trans (Same.new hq1) (Same.new hq2)) _ _ hD10) upd_same (hq _)
end
end WW

set_option maxHeartbeats 0
namespace WW
open PySem PySem.Spec PyProof.Rows L2
abbrev Rw : PySem.W.OpenRow := PySem.W.OpenLaw.row PySem.Challenge.rw_wirewary_k63_whole_texts_of_diaries
abbrev hk : PySem.W.Hook := hookS 5 fa fn
def ob (s : PySem.W.SharedT) : AlS := obsS 5 fa fn (HandSHeadRun.getT s)
theorem ob_eq (s : PySem.W.SharedT) : ob s = hk.obs s.abs := obsS_eq (HandSHeadRun.getT_eq s)
def loose : List PySem.Str := ["Fault", "Malformed", "LETTERS", "DIGITS", "is_whole", "same", "MOST_WORD", "MOST_DEPTH", "MOST_DIGITS", "is_word", "is_short", "write_data", "read_whole", "pieces_of", "DataReader", "read_data", "Reply", "MARKS", "is_text", "write_diary", "read_part", "read_diary", "_law_draw", "_law_take", "_law_data", "_law_is_word", "_law_read", "_law_due", "_law_told", "_law_fits"]
theorem run (w : World) : HandSHeadRun.RunEq Rw (PySem.W.view Rw.prog [36]) hk ob 4000 loose w := by
  intro os
  kernel_rfl
end WW
open PySem PySem.W PySem.Calls PyProof.Rows
theorem PySem.Challenge.cw_wirewary_k63_whole_texts_of_diaries_holds : PySem.Challenge.rw_wirewary_k63_whole_texts_of_diaries.Holds := by
  w_on; o_law
  refine HandSHeadRun.head_any (r := OpenLaw.row PySem.Challenge.rw_wirewary_k63_whole_texts_of_diaries) (q := view (OpenLaw.row PySem.Challenge.rw_wirewary_k63_whole_texts_of_diaries).prog [36]) (H := WW.hk) (ob := WW.ob) (M := 4000) (loose := WW.loose) (d := HandSHeadRun.topDef (OpenLaw.row PySem.Challenge.rw_wirewary_k63_whole_texts_of_diaries).prog 36) (kwd := []) WW.ob_eq
    (by kernel_rfl) (fun s => by kernel_rfl) WW.run (by kernel_rfl) (by kernel_rfl) (by kernel_rfl) (by rfl) (by first | assumption | decide +kernel) (by decide +kernel) ⟨rfl, rfl, rfl, rfl, rfl, by decide +kernel⟩ ?hw ?hc
  case hw => w_witness2
  case hc =>
    refine WW.law_walk (l := PySem.Challenge.rw_wirewary_k63_whole_texts_of_diaries) (n := 63) (x := "script") rfl (by decide) (by kernel_rfl) ?F
    intro w mg fa h Y G hmg0
    obtain ⟨K, KX, c, dgx⟩ := Y
    obtain ⟨dg, ex⟩ := Bool.and_eq_true_iff.mp dgx
    have hmg : mg ("law" : PySem.Str) = some (.ref fa) := by
      have e : (HandSHeadRun.topDef (OpenLaw.row PySem.Challenge.rw_wirewary_k63_whole_texts_of_diaries).prog 36).name = ("law" : PySem.Str) := by kernel_rfl
      rw [← e]
      exact hmg0
    have W : WW.Wd WW.fa WW.fn K mg := ⟨c, ⟨h, KX, G⟩, dg, ex⟩
    obtain ⟨fd, F, hL⟩ := WW.o_law (P := PySem.Challenge.rw_wirewary_k63_whole_texts_of_diaries.prog) (w := w) W
    have e := hmg.symm.trans (W.glo 60 (x := "law"))
    cases e
    have b := L2.FunD.bindsA (ps := ["script"]) F fun _ _ _ _ _ _ us hl => match us, hl with | [_], _ => rfl
    exact ⟨K, fd, WW.spLaw K, KX, fun s v => b s [v] rfl, fun H a ns hl _ hS => ⟨a, ns, rfl, hl, hS, fun _ => rfl⟩, fun base _ _ => hL base⟩
