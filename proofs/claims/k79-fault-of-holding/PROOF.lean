import PyProof.Rows.All
import Wide.All
import OpenK.AllK
import Wide.FinOn
import HandS.ForMost
import HandS.Star
import HandS.TupAny
import HandS.Deep
import HandS.Conv
import HandS.Style
import HandS.IsInst
import HandS.SortInts
import KE.KDictKeyed
import KE.KDictCopyH
import KE.SortData
import HandS.Rev
import HandS.Defaults
import HandS.TupSets
import KE.KeyNested
import HandS.SetFor
import HandS.Strs
import KE.SortKeyHeap
import HandS.SortKw
import HandS.Wide
import HandS.Flow
import KE.KMinKey
import HandS.Iter
import HandS.WordsExc
import HandS.ExcInit
import HandS.ExcOwn
import HandS.TryOnly
import HandS.HeadNt
import KE.KStateDown
import HandS.Ends
import HandS.Head0
import HandS.Head1
import HandS.Head2
import HandS.HeadEnd
import HandS.HeadHook1
import HandS.HeadHook2
import HandS.Head3
import PySem.Challenge.RW_parishlines_k79_fault_of_holding
set_option Elab.async false
set_option linter.all false
set_option maxRecDepth 100000
set_option maxHeartbeats 0
namespace PL
open PySem L2
/-! no star, at once -/
def isStar : Expr → Bool
  | .Starred .. => true
  | _ => false
theorem star_one {e : Expr} {es : List Expr} {env : Env} (h : isStar e = false) : starEach (e :: es) env = (false, eval e env) :: starEach es env := by
  cases e <;> first | rfl | cases h
theorem star_none {env : Env} : starEach [] env = [] := rfl
theorem star_last {e : Expr} {env : Env} (h : isStar e = false) : starEach [e] env = [(false, eval e env)] := by rw [star_one h, star_none]
theorem star_star {e : Expr} {p : Pos} {es : List Expr} {env : Env} : starEach (.Starred e p :: es) env = (true, eval e env) :: starEach es env := rfl
theorem back_ok {es : List Expr} {pos : Pos} {env : Env} (h : es.all (fun e => !isStar e) = true) : (backTo pos (starEach es env)).any (·.1) = false := by
  induction es with
  | nil => rfl
  | cons e es ih =>
    rw [List.all_cons, Bool.and_eq_true] at h
    rw [star_one (by simpa using h.1)]
    show (false || (backTo pos (starEach es env)).any (·.1)) = false
    rw [ih h.2]; rfl
/-! no comprehension alone on the right -/
def isComp : Expr → Bool
  | .ListComp .. => true
  | .SetComp .. => true
  | .DictComp .. => true
  | _ => false
theorem sw_no {e : Expr} {t : Option Expr} {l : Nat} {env : Env} (h : isComp e = false) : swapsWith e t l env = pure false := by
  cases e <;> first | rfl | cases h
theorem sw_noS {e t : Expr} {l : Nat} {env : Env} (h : isComp e = false) : swapsWithSole [t] e l env = pure false := sw_no h
/-! known heaps, worlds, steps -/
def Ex (G H : Hp) : Prop := ∀ a o, G a = some o → H a = some o
theorem Ex.refl (H : Hp) : Ex H H := fun _ _ h => h
theorem Ex.trans {F G H : Hp} (x : Ex F G) (y : Ex G H) : Ex F H := fun a o h => y a o (x a o h)
theorem Ex.new {H : Hp} {p : Addr} {o : HO} (h : H p = none) : Ex H (upd H p o) := fun a u e => by
  rw [upd_ne (ne_of_none e h)]; exact e
theorem Ex.mut {G H : Hp} {p : Addr} {o : HO} (x : Ex G H) (h : G p = none) : Ex G (upd H p o) := fun a u e => by
  rw [upd_ne (ne_of_none e h)]; exact x a u e
theorem Ex.back {G H : Hp} {p : Addr} (x : Ex G H) (h : H p = none) : G p = none := by
  cases e : G p with
  | none => rfl
  | some o => rw [x p o e] at h; cases h
theorem Ex.sql {K : PySem.W.Frag} {G H : Hp} {a : Addr} {xs : List V} (x : Ex G H) (h : SqL K G a xs) : SqL K H a xs := by
  rcases h with (h | ⟨o, h⟩) | h
  · exact .inl (.inl (x _ _ h))
  · exact .inl (.inr ⟨o, x _ _ h⟩)
  · exact .inr h
theorem Ex.sqt {K : PySem.W.Frag} {G H : Hp} {a : Addr} {xs : List V} (x : Ex G H) (h : SqT K G a xs) : SqT K H a xs := by
  rcases h with (h | ⟨o, h⟩) | h
  · exact .inl (.inl (x _ _ h))
  · exact .inl (.inr ⟨o, x _ _ h⟩)
  · exact .inr h
mutual
theorem Ex.dp {K : PySem.W.Frag} {G H : Hp} (x : Ex G H) : ∀ {v : V} {d : PyData}, Dp K G v d → Dp K H v d
  | _, _, .non => .non
  | _, _, .bl b => .bl b
  | _, _, .int i => .int i
  | _, _, .str s => .str s
  | _, _, .lst h a => .lst (x.sql h) (Ex.dps x a)
  | _, _, .tup h a => .tup (x.sqt h) (Ex.dps x a)
theorem Ex.dps {K : PySem.W.Frag} {G H : Hp} (x : Ex G H) : ∀ {vs : List V} {ds : List PyData}, DpAll K G vs ds → DpAll K H vs ds
  | _, _, .nil => .nil
  | _, _, .cons h t => .cons (Ex.dp x h) (Ex.dps x t)
end
/-- what may be turned (m), what that hangs on (ft), what stays true of it (S) -/
structure MS where
  m : Addr → Prop
  ft : Addr → Prop
  S : Hp → Prop
  sub : ∀ a, m a → ft a
  cl : ∀ H H', (∀ a o, ft a → H a = some o → H' a = some o) → S H → S H'
  live : ∀ H a, S H → ft a → H a ≠ none
/-- nothing -/
def M0 : MS := ⟨fun _ => False, fun _ => False, fun _ => True, fun _ h => h, fun _ _ _ _ => trivial, fun _ _ _ h => h.elim⟩
structure Wd (M : MS) (G H : Hp) : Prop where
  gh : Ex G H
  off : ∀ a, M.m a → G a = none
  st : M.S H
structure Stp (M : MS) (G H G' H' : Hp) : Prop where
  w0 : Wd M G H
  gg : Ex G G'
  wd : Wd M G' H'
  hh : ∀ a o, ¬ M.m a → H a = some o → H' a = some o
  fr : ∀ a, H a ≠ none → G' a ≠ none → G a ≠ none
section
variable {M : MS} {F G H G1 H1 G2 H2 G3 H3 : Hp}
theorem Wd.ex0 (h : Ex G H) : Wd M0 G H := ⟨h, fun _ h => h.elim, trivial⟩
theorem Stp.refl (w : Wd M G H) : Stp M G H G H := ⟨w, Ex.refl _, w, fun _ _ _ h => h, fun _ _ h => h⟩
theorem Stp.tr (s : Stp M G H G1 H1) {a : Addr} (h : H a ≠ none) : H1 a ≠ none := by
  by_cases hm : M.m a
  · exact M.live H1 a s.wd.st (M.sub a hm)
  · cases e : H a with
    | none => exact absurd e h
    | some o => rw [s.hh a o hm e]; exact fun z => by cases z
theorem Stp.back (s : Stp M G H G1 H1) {a : Addr} (h : H1 a = none) : H a = none := by
  cases e : H a with
  | none => rfl
  | some o => exact absurd h (s.tr (by rw [e]; exact fun z => by cases z))
theorem Stp.trans (s : Stp M G H G1 H1) (t : Stp M G1 H1 G2 H2) : Stp M G H G2 H2 :=
  ⟨s.w0, s.gg.trans t.gg, t.wd, fun a o hm e => t.hh a o hm (s.hh a o hm e), fun a h h2 => s.fr a h (t.fr a (s.tr h) h2)⟩
/-- a step that turns nothing is a step -/
theorem Stp.lift (w : Wd M G H) (s : Stp M0 G H G1 H1) : Stp M G H G1 H1 := by
  refine ⟨w, s.gg, ⟨s.wd.gh, fun a hm => ?_, M.cl H H1 (fun a o _ e => s.hh a o (fun z => z) e) w.st⟩, fun a o _ e => s.hh a o (fun z => z) e, s.fr⟩
  cases e : G1 a with
  | none => rfl
  | some o => exact absurd (w.off a hm) (s.fr a (M.live H a w.st (M.sub a hm)) (by rw [e]; exact fun z => by cases z))
theorem Stp.ex (s : Stp M0 G H G1 H1) : Ex H H1 := fun a o e => s.hh a o (fun z => z) e
theorem Wd.nm (w : Wd M G H) {p : Addr} (hp : H p = none) : ¬ M.m p := fun hm => M.live H p w.st (M.sub p hm) hp
theorem Wd.nft (w : Wd M G H) {p : Addr} (hp : H p = none) : ¬ M.ft p := fun hm => M.live H p w.st hm hp
/-- a new object, known from now on -/
theorem Stp.laid {p : Addr} {o : HO} (w : Wd M G H) (hp : H p = none) : Stp M G H (upd G p o) (upd H p o) := by
  have gp : G p = none := w.gh.back hp
  refine ⟨w, Ex.new gp, ⟨fun a u e => ?_, fun a hm => ?_, M.cl H _ (fun a u _ e => Ex.new hp a u e) w.st⟩, fun a u _ e => Ex.new hp a u e, fun a h h2 => ?_⟩
  · by_cases z : a = p
    · subst z; rw [upd_same] at e ⊢; exact e
    · rw [upd_ne z] at e ⊢; exact w.gh a u e
  · have z : a ≠ p := fun z => by subst z; exact w.nm hp hm
    rw [upd_ne z]; exact w.off a hm
  · have z : a ≠ p := fun z => by subst z; exact h hp
    rw [upd_ne z] at h2; exact h2
/-- a new object, not known -/
theorem Stp.laidN {p : Addr} {o : HO} (w : Wd M G H) (hp : H p = none) : Stp M G H G (upd H p o) :=
  ⟨w, Ex.refl _, ⟨w.gh.trans (Ex.new hp), w.off, M.cl H _ (fun a u _ e => Ex.new hp a u e) w.st⟩, fun a u _ e => Ex.new hp a u e, fun _ _ h => h⟩
/-- an unknown new object becomes known -/
theorem Stp.know {p : Addr} {o : HO} (s : Stp M G H G1 H1) (hp : H p = none) (e : H1 p = some o) : Stp M G H (upd G1 p o) H1 := by
  have np := s.w0.nm hp
  refine ⟨s.w0, fun a u h => ?_, ⟨fun a u h => ?_, fun a hm => ?_, s.wd.st⟩, s.hh, fun a h h2 => ?_⟩
  · by_cases z : a = p
    · subst z
      have q := s.wd.gh a u (s.gg a u h)
      rw [e] at q; rw [upd_same]; exact q
    · rw [upd_ne z]; exact s.gg a u h
  · by_cases z : a = p
    · subst z; rw [upd_same] at h; rw [e]; exact h
    · rw [upd_ne z] at h; exact s.wd.gh a u h
  · have z : a ≠ p := fun z => np (z ▸ hm)
    rw [upd_ne z]; exact s.wd.off a hm
  · have z : a ≠ p := fun z => by subst z; exact h hp
    rw [upd_ne z] at h2; exact s.fr a h h2
/-- a new unknown object changes -/
theorem Stp.mut {p : Addr} {o : HO} (s : Stp M G H G1 H1) (hp : H p = none) (g : G1 p = none) : Stp M G H G1 (upd H1 p o) := by
  have nf : ∀ a, M.ft a → a ≠ p := fun a hf z => s.w0.nft hp (z ▸ hf)
  refine ⟨s.w0, s.gg, ⟨s.wd.gh.mut g, s.wd.off, M.cl H1 _ (fun a u hf e => by rw [upd_ne (nf a hf)]; exact e) s.wd.st⟩, fun a u hm e => ?_, s.fr⟩
  rw [upd_ne (ne_of_none e hp)]; exact s.hh a u hm e
/-- any known heap between -/
theorem Wd.known (w : Wd M G H) {p : Addr} {o : HO} (nm : ¬ M.m p) (e : H p = some o) : Wd M (upd G p o) H := by
  refine ⟨fun a u h => ?_, fun a hm => ?_, w.st⟩
  · by_cases z : a = p
    · subst z; rw [upd_same] at h; rw [e]; exact h
    · rw [upd_ne z] at h; exact w.gh a u h
  · have z : a ≠ p := fun z => nm (z ▸ hm)
    rw [upd_ne z]; exact w.off a hm
/-- what was known for the while is forgotten -/
theorem Stp.less (w : Wd M F H) (fg : Ex F G) (s : Stp M G H G1 H1) : Stp M F H F H1 :=
  ⟨w, Ex.refl _, ⟨(fg.trans s.gg).trans s.wd.gh, w.off, s.wd.st⟩, s.hh, fun _ _ h => h⟩
end
/-! readings by the syntax itself (structures: nothing looks into them by unfolding) -/
section
variable (X : Cx)
structure RdE (e : Expr) (σ : St) (H : Hp) (Q : VK) : Prop where
  run : ∀ (pins : List (Addr × Obj)) (s : Shared), Inv X pins σ H s → wpAny (model X.prog X.w) X.A (eval e X.env) (EP X pins σ Q) X.xe s
structure RdT (e : Expr) (σ : St) (H : Hp) (Q : Bool → Hp → Prop) : Prop where
  run : ∀ (pins : List (Addr × Obj)) (s : Shared), Inv X pins σ H s → wpAny (model X.prog X.w) X.A (isTrue e X.env (eval e X.env)) (TP X pins σ Q) X.xe s
structure RdA (es : List Expr) (σ : St) (H : Hp) (Q : List V → Hp → Prop) : Prop where
  run : ∀ (pos : Pos) (pins : List (Addr × Obj)) (s : Shared), Inv X pins σ H s → wpAny (model X.prog X.w) X.A (spliced (backTo pos (starEach es X.env))) (AP X pins σ Q) X.xe s
structure RdS (st : Stmt) (D : Ends) (σ : St) (H : Hp) : Prop where
  run : ∀ (pins : List (Addr × Obj)) (s : Shared), Inv X pins σ H s → wpAny (model X.prog X.w) X.A (exec st X.env) (SP X pins D) X.xe s
structure RdB (st : List Stmt) (D : Ends) (σ : St) (H : Hp) : Prop where
  run : ∀ (pins : List (Addr × Obj)) (s : Shared), Inv X pins σ H s → wpAny (model X.prog X.w) X.A (execs st X.env) (SP X pins D) X.xe s
structure RdG (tg : Expr) (v : V) (σ : St) (H : Hp) (Q : St → Hp → Prop) : Prop where
  run : ∀ (pins : List (Addr × Obj)) (s : Shared) (u : Value), Inv X pins σ H s → RelV v u → wpAny (model X.prog X.w) X.A (assign tg X.env u) (fun _ s' => ∃ σ' H', Inv X pins σ' H' s' ∧ Q σ' H') X.xe s
abbrev rdE (e : Expr) : TE := fun σ H Q => RdE X e σ H Q
abbrev rdT (e : Expr) : TT := fun σ H Q => RdT X e σ H Q
abbrev rdA (es : List Expr) : TA := fun σ H Q => RdA X es σ H Q
abbrev rdS (st : Stmt) : TS := fun D σ H => RdS X st D σ H
abbrev rdB (st : List Stmt) : TS := fun D σ H => RdB X st D σ H
abbrev rdG (tg : Expr) : TG := fun v σ H Q => RdG X tg v σ H Q
end
section
variable {X : Cx}
theorem peR (e : Expr) : PE X e (rdE X e) := ⟨fun pins s _ _ _ I h => h.run pins s I⟩
theorem ptR (e : Expr) : PT X e (rdT X e) := ⟨fun pins s _ _ _ I h => h.run pins s I⟩
theorem paR (es : List Expr) : PA X es (rdA X es) := ⟨fun pos pins s _ _ _ I h => h.run pos pins s I⟩
theorem psR (st : Stmt) : PS X st (rdS X st) := ⟨fun pins s _ _ _ I h => h.run pins s I⟩
theorem pbR (st : List Stmt) : PSs X st (rdB X st) := ⟨fun pins s _ _ _ I h => h.run pins s I⟩
theorem pgR (tg : Expr) : PG X tg (rdG X tg) := ⟨fun pins s _ _ _ u _ I r h => h.run pins s u I r⟩
theorem toE {e : Expr} {t : TE} (h : PE X e t) {σ : St} {H : Hp} {Q : VK} (q : t σ H Q) : rdE X e σ H Q := ⟨fun pins s I => h.run pins s σ H Q I q⟩
theorem toT {e : Expr} {t : TT} (h : PT X e t) {σ : St} {H : Hp} {Q : Bool → Hp → Prop} (q : t σ H Q) : rdT X e σ H Q := ⟨fun pins s I => h.run pins s σ H Q I q⟩
theorem toA {es : List Expr} {t : TA} (h : PA X es t) {σ : St} {H : Hp} {Q : List V → Hp → Prop} (q : t σ H Q) : rdA X es σ H Q := ⟨fun pos pins s I => h.run pos pins s σ H Q I q⟩
theorem toS {st : Stmt} {t : TS} (h : PS X st t) {D : Ends} {σ : St} {H : Hp} (q : t D σ H) : rdS X st D σ H := ⟨fun pins s I => h.run pins s σ H D I q⟩
theorem toB {st : List Stmt} {t : TS} (h : PSs X st t) {D : Ends} {σ : St} {H : Hp} (q : t D σ H) : rdB X st D σ H := ⟨fun pins s I => h.run pins s σ H D I q⟩
theorem toG {tg : Expr} {t : TG} (h : PG X tg t) {v : V} {σ : St} {H : Hp} {Q : St → Hp → Prop} (q : t v σ H Q) : rdG X tg v σ H Q := ⟨fun pins s u I r => h.run pins s σ H v u Q I r q⟩
end
/-! what an expression gives -/
section
variable (X : Cx) (M : MS)
/-- the value: data with P -/
def EP' (e : Expr) (σ : St) (G : Hp) (P : PyData → Prop) : Prop := ∀ G1 H1, Ex G G1 → Wd M G1 H1 → ∀ Q : VK, (∀ v d G2 H2, Stp M G1 H1 G2 H2 → Dp X.K G2 v d → P d → Q v H2) → rdE X e σ H1 Q
/-- the value is this data -/
def ED (e : Expr) (σ : St) (G : Hp) (d : PyData) : Prop := ∀ G1 H1, Ex G G1 → Wd M G1 H1 → ∀ Q : VK, (∀ v G2 H2, Stp M G1 H1 G2 H2 → Dp X.K G2 v d → Q v H2) → rdE X e σ H1 Q
/-- a new list, not known itself -/
def EL (e : Expr) (σ : St) (G : Hp) (P : List PyData → Prop) : Prop := ∀ G1 H1, Ex G G1 → Wd M G1 H1 → ∀ Q : VK, (∀ p vs ds G2 H2, Stp M G1 H1 G2 H2 → H1 p = none → G2 p = none → H2 p = some (.lst vs) → DpAll X.K G2 vs ds → P ds → Q (.ref p) H2) → rdE X e σ H1 Q
/-- a test -/
def ET (e : Expr) (σ : St) (G : Hp) (P : Bool → Prop) : Prop := ∀ G1 H1, Ex G G1 → Wd M G1 H1 → ∀ Q : Bool → Hp → Prop, (∀ b G2 H2, Stp M G1 H1 G2 H2 → P b → Q b H2) → rdT X e σ H1 Q
/-- arguments -/
def EA (es : List Expr) (σ : St) (G : Hp) (P : List PyData → Prop) : Prop := ∀ G1 H1, Ex G G1 → Wd M G1 H1 → ∀ Q : List V → Hp → Prop, (∀ vs ds G2 H2, Stp M G1 H1 G2 H2 → DpAll X.K G2 vs ds → P ds → Q vs H2) → rdA X es σ H1 Q
end
section
variable {X : Cx} {M : MS} {σ : St} {F G : Hp}
theorem EP'.up {e : Expr} {P : PyData → Prop} (h : EP' X M e σ F P) (x : Ex F G) : EP' X M e σ G P := fun G1 H1 y w Q q => h G1 H1 (x.trans y) w Q q
theorem ED.up {e : Expr} {d : PyData} (h : ED X M e σ F d) (x : Ex F G) : ED X M e σ G d := fun G1 H1 y w Q q => h G1 H1 (x.trans y) w Q q
theorem EL.up {e : Expr} {P : List PyData → Prop} (h : EL X M e σ F P) (x : Ex F G) : EL X M e σ G P := fun G1 H1 y w Q q => h G1 H1 (x.trans y) w Q q
theorem ET.up {e : Expr} {P : Bool → Prop} (h : ET X M e σ F P) (x : Ex F G) : ET X M e σ G P := fun G1 H1 y w Q q => h G1 H1 (x.trans y) w Q q
theorem EA.up {es : List Expr} {P : List PyData → Prop} (h : EA X M es σ F P) (x : Ex F G) : EA X M es σ G P := fun G1 H1 y w Q q => h G1 H1 (x.trans y) w Q q
theorem ED.p {e : Expr} {d : PyData} (h : ED X M e σ G d) : EP' X M e σ G (· = d) := fun G1 H1 x w Q q => h G1 H1 x w Q fun v G2 H2 s hd => q v d G2 H2 s hd rfl
theorem EP'.d {e : Expr} {d : PyData} (h : EP' X M e σ G (· = d)) : ED X M e σ G d := fun G1 H1 x w Q q => h G1 H1 x w Q fun v d' G2 H2 s hd e => q v G2 H2 s (e ▸ hd)
theorem EP'.imp {e : Expr} {P R : PyData → Prop} (h : EP' X M e σ G P) (i : ∀ d, P d → R d) : EP' X M e σ G R := fun G1 H1 x w Q q => h G1 H1 x w Q fun v d G2 H2 s hd p => q v d G2 H2 s hd (i d p)
theorem ET.imp {e : Expr} {P R : Bool → Prop} (h : ET X M e σ G P) (i : ∀ d, P d → R d) : ET X M e σ G R := fun G1 H1 x w Q q => h G1 H1 x w Q fun b G2 H2 s p => q b G2 H2 s (i b p)
theorem EL.imp {e : Expr} {P R : List PyData → Prop} (h : EL X M e σ G P) (i : ∀ d, P d → R d) : EL X M e σ G R := fun G1 H1 x w Q q => h G1 H1 x w Q fun p vs ds G2 H2 s a b c d r => q p vs ds G2 H2 s a b c d (i ds r)
theorem EL.p {e : Expr} {P : List PyData → Prop} (h : EL X M e σ G P) : EP' X M e σ G (fun d => ∃ ds, d = .list ds ∧ P ds) := fun G1 H1 x w Q q =>
  h G1 H1 x w Q fun p vs ds G2 H2 s hp gp hl hd pr => by
    refine q (.ref p) (.list ds) (upd G2 p (.lst vs)) H2 (s.know hp hl) (.lst (.inl (.inl upd_same)) (Ex.dps (Ex.new gp) hd)) ⟨ds, rfl, pr⟩
theorem EL.d {e : Expr} {ds : List PyData} (h : EL X M e σ G (· = ds)) : ED X M e σ G (.list ds) := fun G1 H1 x w Q q =>
  h.p G1 H1 x w Q fun v d G2 H2 s hd ⟨ds', e1, e2⟩ => q v G2 H2 s (by rw [← e2, ← e1]; exact hd)
end
end PL
namespace PL
open PySem L2
abbrev D := PyData
/-! data by place -/
section
variable {K : PySem.W.Frag} {G H : Hp}
theorem dps_len : ∀ {vs : List V} {ds : List D}, DpAll K G vs ds → vs.length = ds.length
  | _, _, .nil => rfl
  | _, _, .cons _ t => congrArg Nat.succ (dps_len t)
theorem dps_get : ∀ {vs : List V} {ds : List D} {i : Nat} {d : D}, DpAll K G vs ds → ds[i]? = some d → ∃ v, vs[i]? = some v ∧ Dp K G v d
  | _, _, _, _, .nil, e => by simp at e
  | _, _, 0, _, .cons h _, e => by simp at e; subst e; exact ⟨_, rfl, h⟩
  | _, _, i + 1, d, .cons _ t, e => by
    obtain ⟨v, a, b⟩ := dps_get (i := i) (d := d) t (by simpa using e)
    exact ⟨v, by simpa using a, b⟩
theorem dps_getV : ∀ {vs : List V} {ds : List D} {i : Nat} {v : V}, DpAll K G vs ds → vs[i]? = some v → ∃ d, ds[i]? = some d ∧ Dp K G v d
  | _, _, _, _, .nil, e => by simp at e
  | _, _, 0, _, .cons h _, e => by simp at e; subst e; exact ⟨_, rfl, h⟩
  | _, _, i + 1, d, .cons _ t, e => by
    obtain ⟨v, a, b⟩ := dps_getV (i := i) t (by simpa using e)
    exact ⟨v, by simpa using a, b⟩
theorem dps_app : ∀ {vs ws : List V} {ds es : List D}, DpAll K G vs ds → DpAll K G ws es → DpAll K G (vs ++ ws) (ds ++ es)
  | _, _, _, _, .nil, h => h
  | _, _, _, _, .cons a t, h => .cons a (dps_app t h)
theorem dps_take : ∀ {vs : List V} {ds : List D} (n : Nat), DpAll K G vs ds → DpAll K G (vs.take n) (ds.take n)
  | _, _, 0, _ => .nil
  | _, _, _ + 1, .nil => .nil
  | _, _, n + 1, .cons a t => .cons a (dps_take n t)
theorem dps_drop : ∀ {vs : List V} {ds : List D} (n : Nat), DpAll K G vs ds → DpAll K G (vs.drop n) (ds.drop n)
  | _, _, 0, h => h
  | _, _, _ + 1, .nil => .nil
  | _, _, n + 1, .cons _ t => dps_drop n t
theorem dps_atI {vs : List V} {ds : List D} {i : Int} {d : D} (h : DpAll K G vs ds) (e : atI ds i = some d) : ∃ v, atI vs i = some v ∧ Dp K G v d := by
  unfold atI at e ⊢
  rw [dps_len h]
  cases q : ixN ds.length i with
  | none => rw [q] at e; cases e
  | some j =>
    rw [q] at e
    exact dps_get h e
theorem dp_lst {v : V} {ds : List D} (h : Dp K G v (.list ds)) : ∃ a xs, v = .ref a ∧ SqL K G a xs ∧ DpAll K G xs ds := by
  cases h with
  | lst a b => exact ⟨_, _, rfl, a, b⟩
theorem dp_tup {v : V} {ds : List D} (h : Dp K G v (.tuple ds)) : ∃ a xs, v = .ref a ∧ SqT K G a xs ∧ DpAll K G xs ds := by
  cases h with
  | tup a b => exact ⟨_, _, rfl, a, b⟩
theorem dp_int {v : V} {i : Int} (h : Dp K G v (.int i)) : v = .int i := by cases h; rfl
theorem dp_bl {v : V} {b : Bool} (h : Dp K G v (.bool b)) : v = .bl b := by cases h; rfl
theorem dp_str {v : V} {x : Str} (h : Dp K G v (.str x)) : v = .str x := by cases h; rfl
theorem dp_non {v : V} (h : Dp K G v .none) : v = .non := by cases h; rfl
theorem dps_ints : ∀ {vs : List V} {ns : List Int}, DpAll K G vs (ns.map .int) → vs = ns.map V.int
  | _, [], .nil => rfl
  | _, n :: ns, .cons h t => by cases h; exact congrArg _ (dps_ints t)
theorem dps_of_ints : ∀ (ns : List Int), DpAll K G (ns.map V.int) (ns.map .int)
  | [] => .nil
  | n :: ns => .cons (.int n) (dps_of_ints ns)
theorem dps_bls : ∀ {vs : List V} {ns : List Bool}, DpAll K G vs (ns.map .bool) → vs = ns.map V.bl
  | _, [], .nil => rfl
  | _, n :: ns, .cons h t => by cases h; exact congrArg _ (dps_bls t)
end
theorem sz {n : Nat} (h : n ≤ 100000) : n ≤ sizeLine := Nat.le_trans h (by decide)
theorem sz' {n : Nat} (h : n < 100000) : n < sizeLine := Nat.lt_of_lt_of_le h (by decide)
/-! expressions -/
section
variable {X : Cx} {M : MS} {σ : St} {G : Hp} {a b c e o : Expr} {es : List Expr} {pos : Pos} {d : D}
theorem e_var (i : Nat) {x : Str} {v : V} (h : Dp X.K G v d) (hs : σ[i]? = some (some v) := by rfl) (hN : X.N[i]? = some x := by rfl) (hv : Vis X.env.scope x := by first | exact Or.inl rfl | exact Or.inr (Or.inl rfl) | exact Or.inr (Or.inr rfl))
    (hd : (x == ("__debug__" : Str)) = false := by decide) (hcd : (x == ("__classdict__" : Str)) = false := by decide) : ED X M (.Name x pos) σ G d := fun G1 H1 y w Q q =>
  toE (pe_var hN hv hd hcd) ⟨v, hs, q v G1 H1 (.refl w) (y.dp h)⟩
theorem e_int {i : Int} {j} : ED X M (.Constant (.int i) j pos) σ G (.int i) := fun G1 H1 _ w Q q => toE pe_int (q _ G1 H1 (.refl w) (.int i))
theorem e_bl {i : Bool} {j} : ED X M (.Constant (.bool i) j pos) σ G (.bool i) := fun G1 H1 _ w Q q => toE pe_bl (q _ G1 H1 (.refl w) (.bl i))
theorem e_non {j} : ED X M (.Constant .none j pos) σ G .none := fun G1 H1 _ w Q q => toE pe_non (q _ G1 H1 (.refl w) .non)
theorem e_str {x : Str} {j} : ED X M (.Constant (.str x) j pos) σ G (.str x) := fun G1 H1 _ w Q q => toE pe_str (q _ G1 H1 (.refl w) (.str x))
/-! ints -/
def EI (X : Cx) (M : MS) (e : Expr) (σ : St) (G : Hp) (P : Int → Prop) : Prop := EP' X M e σ G fun d => ∃ i, d = .int i ∧ P i
theorem ED.i {i : Int} (h : ED X M e σ G (.int i)) : EI X M e σ G (· = i) := h.p.imp fun d e => ⟨i, e, rfl⟩
theorem EI.det {i : Int} (h : EI X M e σ G (· = i)) : ED X M e σ G (.int i) := (h.imp fun d ⟨j, e1, e2⟩ => by rw [e1, e2]).d
/-- two ints, a rule with a condition -/
theorem i_op {op : Operator} {C : Int → Int → Prop} {g : Int → Int → Int} {P R T : Int → Prop} (ho : OpR X (binaryOp op) (rI C fun i j => .int (g i j))) (ha : EI X M a σ G P) (hb : EI X M b σ G R) (hc : ∀ i j, P i → R j → C i j ∧ T (g i j)) : EI X M (.BinOp a op b pos) σ G T := fun G1 H1 x w Q q =>
  toE (pe_op ho (peR a) (peR b)) (ha G1 H1 x w _ fun v d G2 H2 s hv ⟨i, e1, p1⟩ => hb G2 H2 (x.trans s.gg) s.wd _ fun u d' G3 H3 s' hu ⟨j, e2, p2⟩ => by
    subst e1; subst e2; cases hv; cases hu
    exact ⟨i, j, rfl, rfl, (hc i j p1 p2).1, q _ _ G3 H3 (s.trans s') (.int _) ⟨_, rfl, (hc i j p1 p2).2⟩⟩)
theorem i_op0 {op : Operator} {g : Int → Int → Int} {P R T : Int → Prop} (ho : OpR X (binaryOp op) (rI0 fun i j => .int (g i j))) (ha : EI X M a σ G P) (hb : EI X M b σ G R) (hc : ∀ i j, P i → R j → T (g i j)) : EI X M (.BinOp a op b pos) σ G T := fun G1 H1 x w Q q =>
  toE (pe_op ho (peR a) (peR b)) (ha G1 H1 x w _ fun v d G2 H2 s hv ⟨i, e1, p1⟩ => hb G2 H2 (x.trans s.gg) s.wd _ fun u d' G3 H3 s' hu ⟨j, e2, p2⟩ => by
    subst e1; subst e2; cases hv; cases hu
    exact ⟨i, j, rfl, rfl, q _ _ G3 H3 (s.trans s') (.int _) ⟨_, rfl, hc i j p1 p2⟩⟩)
theorem i_add {P R T : Int → Prop} (ha : EI X M a σ G P) (hb : EI X M b σ G R) (hc : ∀ i j, P i → R j → T (i + j)) : EI X M (.BinOp a .Add b pos) σ G T := i_op0 op_add ha hb hc
theorem i_sub {P R T : Int → Prop} (ha : EI X M a σ G P) (hb : EI X M b σ G R) (hc : ∀ i j, P i → R j → T (i - j)) : EI X M (.BinOp a .Sub b pos) σ G T := i_op0 op_sub ha hb hc
theorem i_mul {P R T : Int → Prop} (ha : EI X M a σ G P) (hb : EI X M b σ G R) (hc : ∀ i j, P i → R j → CMul i j ∧ T (i * j)) : EI X M (.BinOp a .Mult b pos) σ G T := i_op op_mul ha hb hc
theorem i_mod {P R T : Int → Prop} (ha : EI X M a σ G P) (hb : EI X M b σ G R) (hc : ∀ i j, P i → R j → 0 < j ∧ T (i % j)) : EI X M (.BinOp a .Mod b pos) σ G T := i_op op_mod ha hb hc
theorem i_div {P R T : Int → Prop} (ha : EI X M a σ G P) (hb : EI X M b σ G R) (hc : ∀ i j, P i → R j → CDiv i j ∧ T (i / j)) : EI X M (.BinOp a .FloorDiv b pos) σ G T := i_op op_fdiv ha hb hc
theorem i_pow {P R T : Int → Prop} (ha : EI X M a σ G P) (hb : EI X M b σ G R) (hc : ∀ i j, P i → R j → CPow i j ∧ T (i ^ j.toNat)) : EI X M (.BinOp a .Pow b pos) σ G T := i_op op_pow ha hb hc
theorem e_add {i j : Int} (ha : ED X M a σ G (.int i)) (hb : ED X M b σ G (.int j)) : ED X M (.BinOp a .Add b pos) σ G (.int (i + j)) := EI.det (i_add (T := (· = i + j)) ha.i hb.i fun _ _ e1 e2 => by rw [e1, e2])
theorem e_sub {i j : Int} (ha : ED X M a σ G (.int i)) (hb : ED X M b σ G (.int j)) : ED X M (.BinOp a .Sub b pos) σ G (.int (i - j)) := EI.det (i_sub (T := (· = i - j)) ha.i hb.i fun _ _ e1 e2 => by rw [e1, e2])
theorem e_mul {i j : Int} (ha : ED X M a σ G (.int i)) (hb : ED X M b σ G (.int j)) (hc : CMul i j) : ED X M (.BinOp a .Mult b pos) σ G (.int (i * j)) := EI.det (i_mul (T := (· = i * j)) ha.i hb.i fun _ _ e1 e2 => by rw [e1, e2]; exact ⟨hc, rfl⟩)
theorem e_mod {i j : Int} (ha : ED X M a σ G (.int i)) (hb : ED X M b σ G (.int j)) (hc : 0 < j) : ED X M (.BinOp a .Mod b pos) σ G (.int (i % j)) := EI.det (i_mod (T := (· = i % j)) ha.i hb.i fun _ _ e1 e2 => by rw [e1, e2]; exact ⟨hc, rfl⟩)
theorem e_div {i j : Int} (ha : ED X M a σ G (.int i)) (hb : ED X M b σ G (.int j)) (hc : CDiv i j) : ED X M (.BinOp a .FloorDiv b pos) σ G (.int (i / j)) := EI.det (i_div (T := (· = i / j)) ha.i hb.i fun _ _ e1 e2 => by rw [e1, e2]; exact ⟨hc, rfl⟩)
theorem e_neg {i : Int} (ha : ED X M a σ G (.int i)) : ED X M (.UnaryOp .USub a pos) σ G (.int (-i)) := fun G1 H1 x w Q q =>
  toE (pe_un un_neg (peR a)) (ha G1 H1 x w _ fun v G2 H2 s hv => by cases hv; exact ⟨i, rfl, q _ G2 H2 s (.int _)⟩)
/-! comparisons by values -/
def RB (K : PySem.W.Frag) (r : R2) (d e : D) (t : Bool) : Prop := ∀ x y G H (Q : VK), Ex G H → Dp K G x d → Dp K G y e → Q (.bl t) H → r x y H Q
theorem e_cmp {op : CmpOp} {r : R2} {d e : D} {t : Bool} (ho : OpR X (compareOp op) r) (hr : RB X.K r d e t) (ha : ED X M a σ G d) (hb : ED X M b σ G e) (hm : behindInMarks op b = false := by first | exact nomark _ | rfl) : ED X M (.Compare a [op] [b] pos) σ G (.bool t) := fun G1 H1 x w Q q =>
  toE (pe_cmpR ho (peR a) (peR b) hm) (ha G1 H1 x w _ fun v G2 H2 s hv => hb G2 H2 (x.trans s.gg) s.wd _ fun u G3 H3 s' hu => hr v u G3 H3 _ s'.wd.gh (s'.gg.dp hv) hu (q _ G3 H3 (s.trans s') (.bl t)))
theorem t_cmp {op : CmpOp} {r : R2} {d e : D} {t : Bool} (ho : OpR X (compareOp op) r) (hr : RB X.K r d e t) (ha : ED X M a σ G d) (hb : ED X M b σ G e) (hm : behindInMarks op b = false := by first | exact nomark _ | rfl) : ET X M (.Compare a [op] [b] pos) σ G (· = t) := fun G1 H1 x w Q q =>
  toT (pt_cmpR ho (peR a) (peR b) hm) (ha G1 H1 x w _ fun v G2 H2 s hv => hb G2 H2 (x.trans s.gg) s.wd _ fun u G3 H3 s' hu => hr v u G3 H3 _ s'.wd.gh (s'.gg.dp hv) hu ⟨t, rfl, q _ G3 H3 (s.trans s') rfl⟩)
/-- drawn ints -/
theorem t_cmpI {op : CmpOp} {g : Int → Int → Bool} {P R : Int → Prop} {T : Bool → Prop} (ho : OpR X (compareOp op) (rI0 fun i j => .bl (g i j))) (ha : EI X M a σ G P) (hb : EI X M b σ G R) (hc : ∀ i j, P i → R j → T (g i j)) (hm : behindInMarks op b = false := by first | exact nomark _ | rfl) : ET X M (.Compare a [op] [b] pos) σ G T := fun G1 H1 x w Q q =>
  toT (pt_cmpR ho (peR a) (peR b) hm) (ha G1 H1 x w _ fun v d G2 H2 s hv ⟨i, e1, p1⟩ => hb G2 H2 (x.trans s.gg) s.wd _ fun u d' G3 H3 s' hu ⟨j, e2, p2⟩ => by
    subst e1; subst e2; cases hv; cases hu
    exact ⟨i, j, rfl, rfl, g i j, rfl, q _ G3 H3 (s.trans s') (hc i j p1 p2)⟩)
theorem t_eqI {P R : Int → Prop} {T : Bool → Prop} (ha : EI X M a σ G P) (hb : EI X M b σ G R) (hc : ∀ i j, P i → R j → T (decide (i = j))) : ET X M (.Compare a [.Eq] [b] pos) σ G T := fun G1 H1 x w Q q =>
  toT (pt_cmpR op_eq (peR a) (peR b) (nomark _)) (ha G1 H1 x w _ fun v d G2 H2 s hv ⟨i, e1, p1⟩ => hb G2 H2 (x.trans s.gg) s.wd _ fun u d' G3 H3 s' hu ⟨j, e2, p2⟩ => by
    subst e1; subst e2; cases hv; cases hu
    refine ⟨rfl, _, rfl, q _ G3 H3 (s.trans s') ?_⟩
    have z : decide (V.int i = V.int j) = decide (i = j) := by
      by_cases h : i = j
      · subst h; simp
      · rw [decide_eq_false h]; exact decide_eq_false fun z => h (V.int.inj z)
    rw [z]; exact hc i j p1 p2)
theorem e_eqI {P R : Int → Prop} {T : Bool → Prop} (ha : EI X M a σ G P) (hb : EI X M b σ G R) (hc : ∀ i j, P i → R j → T (decide (i = j))) : EP' X M (.Compare a [.Eq] [b] pos) σ G (fun d => ∃ t, d = .bool t ∧ T t) := fun G1 H1 x w Q q =>
  toE (pe_cmpR op_eq (peR a) (peR b) (nomark _)) (ha G1 H1 x w _ fun v d G2 H2 s hv ⟨i, e1, p1⟩ => hb G2 H2 (x.trans s.gg) s.wd _ fun u d' G3 H3 s' hu ⟨j, e2, p2⟩ => by
    subst e1; subst e2; cases hv; cases hu
    refine ⟨rfl, q _ _ G3 H3 (s.trans s') (.bl _) ⟨_, rfl, ?_⟩⟩
    have z : decide (V.int i = V.int j) = decide (i = j) := by
      by_cases h : i = j
      · subst h; simp
      · rw [decide_eq_false h]; exact decide_eq_false fun z => h (V.int.inj z)
    rw [z]; exact hc i j p1 p2)
section
variable {K : PySem.W.Frag} {i j : Int}
theorem rb_lt : RB K (rI0 fun i j => .bl (decide (i < j))) (.int i) (.int j) (decide (i < j)) := fun x y G H Q _ h1 h2 q => by cases h1; cases h2; exact ⟨i, j, rfl, rfl, q⟩
theorem rb_le : RB K (rI0 fun i j => .bl (decide (i ≤ j))) (.int i) (.int j) (decide (i ≤ j)) := fun x y G H Q _ h1 h2 q => by cases h1; cases h2; exact ⟨i, j, rfl, rfl, q⟩
theorem rb_gt : RB K (rI0 fun i j => .bl (decide (j < i))) (.int i) (.int j) (decide (j < i)) := fun x y G H Q _ h1 h2 q => by cases h1; cases h2; exact ⟨i, j, rfl, rfl, q⟩
theorem rb_ge : RB K (rI0 fun i j => .bl (decide (j ≤ i))) (.int i) (.int j) (decide (j ≤ i)) := fun x y G H Q _ h1 h2 q => by cases h1; cases h2; exact ⟨i, j, rfl, rfl, q⟩
theorem dInt : decide (V.int i = V.int j) = decide (i = j) := by
  by_cases h : i = j
  · subst h; simp
  · rw [decide_eq_false h]; exact decide_eq_false fun z => h (V.int.inj z)
theorem dStr {x y : Str} : decide (V.str x = V.str y) = decide (x = y) := by
  by_cases h : x = y
  · subst h; simp
  · rw [decide_eq_false h]; exact decide_eq_false fun z => h (V.str.inj z)
theorem rb_eq : RB K rEq (.int i) (.int j) (decide (i = j)) := fun x y G H Q _ h1 h2 q => by cases h1; cases h2; exact ⟨rfl, by rw [dInt]; exact q⟩
theorem rb_ne : RB K rNe (.int i) (.int j) (!decide (i = j)) := fun x y G H Q _ h1 h2 q => by cases h1; cases h2; exact ⟨rfl, by rw [dInt]; exact q⟩
theorem rb_eqS {x y : Str} : RB K rEq (.str x) (.str y) (decide (x = y)) := fun u v G H Q _ h1 h2 q => by cases h1; cases h2; exact ⟨rfl, by rw [dStr]; exact q⟩
theorem rb_neS {x y : Str} : RB K rNe (.str x) (.str y) (!decide (x = y)) := fun u v G H Q _ h1 h2 q => by cases h1; cases h2; exact ⟨rfl, by rw [dStr]; exact q⟩
theorem rb_eqD {d e : D} (h1 : SeqAt.shaped d = true) (h2 : SeqAt.shaped e = true) : RB K (rEqD K) d e (PyData.eqv d e) := fun x y G H Q gh a b q => ⟨d, e, gh.dp a, gh.dp b, h1, h2, q⟩
theorem rb_neD {d e : D} (h1 : SeqAt.shaped d = true) (h2 : SeqAt.shaped e = true) : RB K (rNeD K) d e (!PyData.eqv d e) := fun x y G H Q gh a b q => ⟨d, e, gh.dp a, gh.dp b, h1, h2, q⟩
theorem inV_ints {ns : List Int} : inV (.int i) (ns.map V.int) = decide (i ∈ ns) := by
  unfold inV
  rw [List.any_map]
  induction ns with
  | nil => simp
  | cons n ns ih =>
    rw [List.any_cons, ih]
    show ((n == i) || _) = _
    by_cases h : n = i
    · subst h; simp
    · have h' : ¬ i = n := fun z => h z.symm
      simp [h, h']
theorem flat_ints {ns : List Int} : (ns.map V.int).all flatV = true := by
  rw [List.all_map]; exact List.all_eq_true.mpr fun _ _ => rfl
theorem rb_inT {ns : List Int} : RB K (rIn K false) (.int i) (.tuple (ns.map .int)) (decide (i ∈ ns)) := fun x y G H Q gh h1 h2 q => by
  cases h1
  obtain ⟨a, xs, rfl, h, hd⟩ := dp_tup h2
  have e := dps_ints hd; subst e
  exact ⟨a, _, rfl, .inr (gh.sqt h), rfl, flat_ints, by rw [if_neg (by decide), inV_ints]; exact q⟩
theorem rb_inL {ns : List Int} : RB K (rIn K false) (.int i) (.list (ns.map .int)) (decide (i ∈ ns)) := fun x y G H Q gh h1 h2 q => by
  cases h1
  obtain ⟨a, xs, rfl, h, hd⟩ := dp_lst h2
  have e := dps_ints hd; subst e
  exact ⟨a, _, rfl, .inl (gh.sql h), rfl, flat_ints, by rw [if_neg (by decide), inV_ints]; exact q⟩
theorem rb_niT {ns : List Int} : RB K (rIn K true) (.int i) (.tuple (ns.map .int)) (!decide (i ∈ ns)) := fun x y G H Q gh h1 h2 q => by
  cases h1
  obtain ⟨a, xs, rfl, h, hd⟩ := dp_tup h2
  have e := dps_ints hd; subst e
  exact ⟨a, _, rfl, .inr (gh.sqt h), rfl, flat_ints, by rw [if_pos rfl, inV_ints]; exact q⟩
theorem rb_niL {ns : List Int} : RB K (rIn K true) (.int i) (.list (ns.map .int)) (!decide (i ∈ ns)) := fun x y G H Q gh h1 h2 q => by
  cases h1
  obtain ⟨a, xs, rfl, h, hd⟩ := dp_lst h2
  have e := dps_ints hd; subst e
  exact ⟨a, _, rfl, .inl (gh.sql h), rfl, flat_ints, by rw [if_pos rfl, inV_ints]; exact q⟩
theorem rb_inD {d : D} {ds : List D} (h1 : SeqAt.shaped d = true) (h2 : SeqAt.shaped (.list ds) = true) : RB K (rInD K) d (.list ds) (ds.any fun z => PyData.eqv z d) := fun x y G H Q gh a b q => ⟨d, ds, gh.dp a, gh.dp b, h1, h2, q⟩
end
/-! tests -/
theorem t_val {t : Bool} (h : ED X M e σ G (.bool t)) (he : ∀ whole, isTrue e X.env whole = (do let v ← whole; standAt e.pos; holding [v] (truthy v)) := by intro _; rfl) : ET X M e σ G (· = t) := fun G1 H1 x w Q q =>
  toT (pt_val (peR e) he) (h G1 H1 x w _ fun v G2 H2 s hv => by cases hv; exact ⟨t, rfl, q _ G2 H2 s rfl⟩)
theorem t_not {P T : Bool → Prop} (h : ET X M a σ G P) (hc : ∀ t, P t → T (!t)) : ET X M (.UnaryOp .Not a pos) σ G T := fun G1 H1 x w Q q => toT (pt_not (ptR a)) (h G1 H1 x w _ fun t G2 H2 s p => q _ G2 H2 s (hc t p))
theorem t_notd {t : Bool} (h : ET X M a σ G (· = t)) : ET X M (.UnaryOp .Not a pos) σ G (· = !t) := t_not h fun u e => by rw [e]
/-- and, or: the rest again an and, an or -/
def ETw (X : Cx) (M : MS) (e : Expr) (σ : St) (G : Hp) (P : Bool → Prop) : Prop := ∃ t, PW X e t ∧ ∀ G1 H1, Ex G G1 → Wd M G1 H1 → ∀ Q : Bool → Hp → Prop, (∀ b G2 H2, Stp M G1 H1 G2 H2 → P b → Q b H2) → t σ H1 Q
theorem ETw.t {P : Bool → Prop} (h : ETw X M e σ G P) : ET X M e σ G P := by
  obtain ⟨t, p, f⟩ := h
  exact fun G1 H1 x w Q q => toT p.pt (f G1 H1 x w Q q)
theorem w_and1 {P : Bool → Prop} (h : ET X M a σ G P) : ETw X M (.BoolOp .And [a] pos) σ G P := ⟨_, pw_and1 (ptR a), h⟩
theorem w_or1 {P : Bool → Prop} (h : ET X M a σ G P) : ETw X M (.BoolOp .Or [a] pos) σ G P := ⟨_, pw_or1 (ptR a), h⟩
theorem w_and {rest : List Expr} {P R T : Bool → Prop} (h : ET X M a σ G P) (h2 : P true → ETw X M (.BoolOp .And (b :: rest) pos) σ G R) (hf : P false → T false) (ht : ∀ t, P true → R t → T t) : ETw X M (.BoolOp .And (a :: b :: rest) pos) σ G T := by
  by_cases pt : P true
  · obtain ⟨t, p, f⟩ := h2 pt
    refine ⟨_, pw_and (ptR a) p, fun G1 H1 x w Q q => h G1 H1 x w _ fun u G2 H2 s pu => ?_⟩
    cases u with
    | true => exact iteT (f G2 H2 (x.trans s.gg) s.wd _ fun t' G3 H3 s' r => q t' G3 H3 (s.trans s') (ht t' pu r))
    | false => exact iteF (q false G2 H2 s (hf pu))
  · refine ⟨_, pw_and (ptR a) (tB' := fun _ _ _ => False) ⟨fun _ _ _ _ _ _ _ h => h.elim⟩, fun G1 H1 x w Q q => h G1 H1 x w _ fun u G2 H2 s pu => ?_⟩
    cases u with
    | true => exact absurd pu pt
    | false => exact iteF (q false G2 H2 s (hf pu))
theorem w_or {rest : List Expr} {P R T : Bool → Prop} (h : ET X M a σ G P) (h2 : P false → ETw X M (.BoolOp .Or (b :: rest) pos) σ G R) (ht : P true → T true) (hf : ∀ t, P false → R t → T t) : ETw X M (.BoolOp .Or (a :: b :: rest) pos) σ G T := by
  by_cases pt : P false
  · obtain ⟨t, p, f⟩ := h2 pt
    refine ⟨_, pw_or (ptR a) p, fun G1 H1 x w Q q => h G1 H1 x w _ fun u G2 H2 s pu => ?_⟩
    cases u with
    | false => exact iteF (f G2 H2 (x.trans s.gg) s.wd _ fun t' G3 H3 s' r => q t' G3 H3 (s.trans s') (hf t' pu r))
    | true => exact iteT (q true G2 H2 s (ht pu))
  · refine ⟨_, pw_or (ptR a) (tB' := fun _ _ _ => False) ⟨fun _ _ _ _ _ _ _ h => h.elim⟩, fun G1 H1 x w Q q => h G1 H1 x w _ fun u G2 H2 s pu => ?_⟩
    cases u with
    | false => exact absurd pu pt
    | true => exact iteT (q true G2 H2 s (ht pu))
theorem w_andd {rest : List Expr} {s t : Bool} (h : ET X M a σ G (· = s)) (h2 : s = true → ETw X M (.BoolOp .And (b :: rest) pos) σ G (· = t)) : ETw X M (.BoolOp .And (a :: b :: rest) pos) σ G (· = (s && t)) :=
  w_and h (fun e => h2 e.symm) (fun e => by subst e; rfl) (fun u e r => by subst e; subst r; rfl)
theorem w_ord {rest : List Expr} {s t : Bool} (h : ET X M a σ G (· = s)) (h2 : s = false → ETw X M (.BoolOp .Or (b :: rest) pos) σ G (· = t)) : ETw X M (.BoolOp .Or (a :: b :: rest) pos) σ G (· = (s || t)) :=
  w_or h (fun e => h2 e.symm) (fun e => by subst e; rfl) (fun u e r => by subst e; subst r; rfl)
/-- as values, bools -/
theorem v_one {op} {t : Bool} (h : ED X M a σ G (.bool t)) : ED X M (.BoolOp op [a] pos) σ G (.bool t) := fun G1 H1 x w Q q => toE (pe_one (peR a)) (h G1 H1 x w Q q)
theorem v_and {rest : List Expr} {s t : Bool} (h : ED X M a σ G (.bool s)) (h2 : s = true → ED X M (.BoolOp .And (b :: rest) pos) σ G (.bool t)) : ED X M (.BoolOp .And (a :: b :: rest) pos) σ G (.bool (s && t)) := fun G1 H1 x w Q q =>
  toE (pe_and (peR a) (peR _)) (h G1 H1 x w _ fun v G2 H2 st hv => by
    cases hv
    refine ⟨s, rfl, ?_⟩
    cases s with
    | true => exact iteT (h2 rfl G2 H2 (x.trans st.gg) st.wd _ fun u G3 H3 st' hu => q u G3 H3 (st.trans st') hu)
    | false => exact iteF (q _ G2 H2 st (.bl _)))
theorem v_or {rest : List Expr} {s t : Bool} (h : ED X M a σ G (.bool s)) (h2 : s = false → ED X M (.BoolOp .Or (b :: rest) pos) σ G (.bool t)) : ED X M (.BoolOp .Or (a :: b :: rest) pos) σ G (.bool (s || t)) := fun G1 H1 x w Q q =>
  toE (pe_or (peR a) (peR _)) (h G1 H1 x w _ fun v G2 H2 st hv => by
    cases hv
    refine ⟨s, rfl, ?_⟩
    cases s with
    | false => exact iteF (h2 rfl G2 H2 (x.trans st.gg) st.wd _ fun u G3 H3 st' hu => q u G3 H3 (st.trans st') hu)
    | true => exact iteT (q _ G2 H2 st (.bl _)))
theorem v_not {s : Bool} (h : ED X M a σ G (.bool s)) : ED X M (.UnaryOp .Not a pos) σ G (.bool (!s)) := fun G1 H1 x w Q q =>
  toE (pe_not (peR a)) (h G1 H1 x w _ fun v G2 H2 st hv => by cases hv; exact ⟨s, rfl, q _ G2 H2 st (.bl _)⟩)
theorem e_if {t : Bool} (h : ET X M c σ G (· = t)) (h1 : t = true → ED X M a σ G d) (h2 : t = false → ED X M b σ G d) : ED X M (.IfExp c a b pos) σ G d := fun G1 H1 x w Q q =>
  toE (pe_ifExp (ptR c) (peR a) (peR b)) (h G1 H1 x w _ fun u G2 H2 st e => by
    subst e
    cases u with
    | true => exact iteT (h1 rfl G2 H2 (x.trans st.gg) st.wd _ fun v G3 H3 st' hv => q v G3 H3 (st.trans st') hv)
    | false => exact iteF (h2 rfl G2 H2 (x.trans st.gg) st.wd _ fun v G3 H3 st' hv => q v G3 H3 (st.trans st') hv))
/-! arguments, displays -/
theorem a_nil : EA X M [] σ G (· = []) := fun G1 H1 x w Q q => toA pa_nil (q [] [] G1 H1 (.refl w) .nil rfl)
theorem a_cons {ds : List D} (h : ED X M e σ G d) (hr : EA X M es σ G (· = ds)) (hs : starEach (e :: es) X.env = (false, eval e X.env) :: starEach es X.env := by exact star_one rfl) : EA X M (e :: es) σ G (· = d :: ds) := fun G1 H1 x w Q q =>
  toA (pa_cons (peR e) (paR es) hs) (h G1 H1 x w _ fun v G2 H2 s hv => hr G2 H2 (x.trans s.gg) s.wd _ fun vs ds' G3 H3 s' hvs e => by
    subst e; exact q _ _ G3 H3 (s.trans s') (.cons (s'.gg.dp hv) hvs) rfl)
theorem a_consP {P : D → Prop} {R T : List D → Prop} (h : EP' X M e σ G P) (hr : EA X M es σ G R) (hc : ∀ d ds, P d → R ds → T (d :: ds)) (hs : starEach (e :: es) X.env = (false, eval e X.env) :: starEach es X.env := by exact star_one rfl) : EA X M (e :: es) σ G T := fun G1 H1 x w Q q =>
  toA (pa_cons (peR e) (paR es) hs) (h G1 H1 x w _ fun v d G2 H2 s hv p => hr G2 H2 (x.trans s.gg) s.wd _ fun vs ds' G3 H3 s' hvs r =>
    q _ _ G3 H3 (s.trans s') (.cons (s'.gg.dp hv) hvs) (hc _ _ p r))
theorem a_starT {cs ds : List D} {p : Pos} (h : ED X M e σ G (.tuple cs)) (hr : EA X M es σ G (· = ds)) (hs : starEach (.Starred e p :: es) X.env = (true, eval e X.env) :: starEach es X.env := by exact star_star) : EA X M (.Starred e p :: es) σ G (· = cs ++ ds) := fun G1 H1 x w Q q =>
  toA (StX.pa_star (peR e) (paR es) hs) (h G1 H1 x w _ fun v G2 H2 s hv => by
    obtain ⟨a, xs, rfl, h1, h2⟩ := dp_tup hv
    exact ⟨a, xs, rfl, .inl (s.wd.gh.sqt h1), hr G2 H2 (x.trans s.gg) s.wd _ fun vs ds' G3 H3 s' hvs e => by
      subst e; exact q _ _ G3 H3 (s.trans s') (dps_app (s'.gg.dps h2) hvs) rfl⟩)
theorem a_starL {cs ds : List D} {p : Pos} (h : ED X M e σ G (.list cs)) (hr : EA X M es σ G (· = ds)) (hs : starEach (.Starred e p :: es) X.env = (true, eval e X.env) :: starEach es X.env := by exact star_star) : EA X M (.Starred e p :: es) σ G (· = cs ++ ds) := fun G1 H1 x w Q q =>
  toA (StX.pa_star (peR e) (paR es) hs) (h G1 H1 x w _ fun v G2 H2 s hv => by
    obtain ⟨a, xs, rfl, h1, h2⟩ := dp_lst hv
    exact ⟨a, xs, rfl, .inr (s.wd.gh.sql h1), hr G2 H2 (x.trans s.gg) s.wd _ fun vs ds' G3 H3 s' hvs e => by
      subst e; exact q _ _ G3 H3 (s.trans s') (dps_app (s'.gg.dps h2) hvs) rfl⟩)
theorem e_tupP {k} {P : List D → Prop} (h : EA X M es σ G P) (hl : ∀ ds, P ds → ds.length ≤ 100000) : EP' X M (.Tuple es k pos) σ G (fun d => ∃ ds, d = .tuple ds ∧ P ds) := fun G1 H1 x w Q q =>
  toE (pe_tup (paR es)) (h G1 H1 x w _ fun vs ds' G2 H2 s hvs e => ⟨sz (by rw [dps_len hvs]; exact hl _ e), fun p hp => q _ _ _ _ (s.trans (.laid s.wd hp)) (.tup (.inl (.inl upd_same)) ((Stp.laid s.wd hp).gg.dps hvs)) ⟨_, rfl, e⟩⟩)
theorem e_tup {k} {ds : List D} (h : EA X M es σ G (· = ds)) (hl : ds.length ≤ 100000 := by (first | decide | (simp; omega))) : ED X M (.Tuple es k pos) σ G (.tuple ds) := fun G1 H1 x w Q q => by
  refine (e_tupP (k := k) (pos := pos) h fun ds' e => ?_) G1 H1 x w Q fun v d' G2 H2 s hv hd => ?_
  · rw [e]; exact hl
  · obtain ⟨ds', e1, e2⟩ := hd
    rw [e1, e2] at hv
    exact q v G2 H2 s hv
theorem l_lst {P : List D → Prop} (h : EA X M es σ G P) (hl : ∀ ds, P ds → ds.length ≤ 100000) : EL X M (.List es pos) σ G P := fun G1 H1 x w Q q =>
  toE (pe_lst (paR es)) (h G1 H1 x w _ fun vs ds' G2 H2 s hvs e => ⟨sz (by rw [dps_len hvs]; exact hl _ e), fun p hp => q p vs _ G2 _ (s.trans (.laidN s.wd hp)) (s.back hp) (s.wd.gh.back hp) upd_same hvs e⟩)
theorem l_lstd {ds : List D} (h : EA X M es σ G (· = ds)) (hl : ds.length ≤ 100000 := by (first | decide | (simp; omega))) : EL X M (.List es pos) σ G (· = ds) := l_lst h fun ds' e => by rw [e]; exact hl
/-! subscripts -/
theorem e_ixLP {ds : List D} {P : Int → Prop} {T : D → Prop} (ha : ED X M a σ G (.list ds)) (hb : EI X M b σ G P) (hc : ∀ i, P i → ∃ d, atI ds i = some d ∧ T d) (hs : PlainIx b := by exact fun _ _ => rfl) : EP' X M (.Subscript a b pos) σ G T := fun G1 H1 x w Q q =>
  toE (pe_ix ix_list (peR a) (peR b) hs) (ha G1 H1 x w _ fun v G2 H2 s hv => hb G2 H2 (x.trans s.gg) s.wd _ fun u d' G3 H3 s' hu ⟨i, e1, p⟩ => by
    subst e1; cases hu
    obtain ⟨p', xs, rfl, h1, h2⟩ := dp_lst hv
    obtain ⟨d, hd, ht⟩ := hc i p
    obtain ⟨v', e1, e2⟩ := dps_atI h2 hd
    exact ⟨p', xs, i, v', rfl, rfl, (s'.gg.trans s'.wd.gh).sql h1, e1, q _ d G3 H3 (s.trans s') (s'.gg.dp e2) ht⟩)
theorem e_ixTP {ds : List D} {P : Int → Prop} {T : D → Prop} (ha : ED X M a σ G (.tuple ds)) (hb : EI X M b σ G P) (hc : ∀ i, P i → ∃ d, atI ds i = some d ∧ T d) (hs : PlainIx b := by exact fun _ _ => rfl) : EP' X M (.Subscript a b pos) σ G T := fun G1 H1 x w Q q =>
  toE (pe_ix ix_tup (peR a) (peR b) hs) (ha G1 H1 x w _ fun v G2 H2 s hv => hb G2 H2 (x.trans s.gg) s.wd _ fun u d' G3 H3 s' hu ⟨i, e1, p⟩ => by
    subst e1; cases hu
    obtain ⟨p', xs, rfl, h1, h2⟩ := dp_tup hv
    obtain ⟨d, hd, ht⟩ := hc i p
    obtain ⟨v', e1, e2⟩ := dps_atI h2 hd
    exact ⟨p', xs, i, v', rfl, rfl, (s'.gg.trans s'.wd.gh).sqt h1, e1, q _ d G3 H3 (s.trans s') (s'.gg.dp e2) ht⟩)
theorem e_ixL {ds : List D} {i : Int} (ha : ED X M a σ G (.list ds)) (hb : ED X M b σ G (.int i)) (hc : atI ds i = some d) (hs : PlainIx b := by exact fun _ _ => rfl) : ED X M (.Subscript a b pos) σ G d := EP'.d (e_ixLP (T := (· = d)) ha hb.i (fun j e => ⟨d, by rw [e]; exact hc, rfl⟩) hs)
theorem e_ixT {ds : List D} {i : Int} (ha : ED X M a σ G (.tuple ds)) (hb : ED X M b σ G (.int i)) (hc : atI ds i = some d) (hs : PlainIx b := by exact fun _ _ => rfl) : ED X M (.Subscript a b pos) σ G d := EP'.d (e_ixTP (T := (· = d)) ha hb.i (fun j e => ⟨d, by rw [e]; exact hc, rfl⟩) hs)
end
end PL
namespace PL
open PySem L2
/-! judgements over any reading -/
section
variable (K : PySem.W.Frag) (M : MS)
def GE (te : TE) (σ : St) (G : Hp) (P : D → Prop) : Prop := ∀ G1 H1, Ex G G1 → Wd M G1 H1 → ∀ Q : VK, (∀ v d G2 H2, Stp M G1 H1 G2 H2 → Dp K G2 v d → P d → Q v H2) → te σ H1 Q
def GL (te : TE) (σ : St) (G : Hp) (P : List D → Prop) : Prop := ∀ G1 H1, Ex G G1 → Wd M G1 H1 → ∀ Q : VK, (∀ p vs ds G2 H2, Stp M G1 H1 G2 H2 → H1 p = none → G2 p = none → H2 p = some (.lst vs) → DpAll K G2 vs ds → P ds → Q (.ref p) H2) → te σ H1 Q
def GT (tt : TT) (σ : St) (G : Hp) (P : Bool → Prop) : Prop := ∀ G1 H1, Ex G G1 → Wd M G1 H1 → ∀ Q : Bool → Hp → Prop, (∀ b G2 H2, Stp M G1 H1 G2 H2 → P b → Q b H2) → tt σ H1 Q
end
theorem GL.el {X : Cx} {M : MS} {e : Expr} {te : TE} {σ : St} {G : Hp} {P : List D → Prop} (h : PE X e te) (g : GL X.K M te σ G P) : EL X M e σ G P := fun G1 H1 x w Q q => toE h (g G1 H1 x w Q q)
/-! nothing known comes of what is not known -/
theorem Stp.none {M : MS} {G H G1 H1 : Hp} (s : Stp M G H G1 H1) {a : Addr} (hH : H a ≠ Option.none) (hG : G a = Option.none) : G1 a = Option.none := by
  cases e : G1 a with
  | none => rfl
  | some o => exact absurd hG (s.fr a hH (by rw [e]; exact fun z => by cases z))
theorem Stp.nm {M : MS} {G H G1 H1 : Hp} (s : Stp M G H G1 H1) {a : Addr} (h : H a = Option.none) : ¬ M.m a := s.w0.nm h
theorem some_ne {H : Hp} {a : Addr} {o : HO} (e : H a = some o) : H a ≠ none := by rw [e]; exact fun z => by cases z
/-! comprehensions -/
section
variable {X : Cx} {M : MS} {σ : St} {G : Hp}
/-- behind i turns: the new list stands at Dl, not known, its data are ds -/
def LcAt (K : PySem.W.Frag) (M : MS) (G1 H1 : Hp) (Dl : Addr) (R : List D → Prop) (H' : Hp) : Prop :=
  ∃ Gi acc ds, Stp M G1 H1 Gi H' ∧ Gi Dl = none ∧ H' Dl = some (.lst acc) ∧ DpAll K Gi acc ds ∧ R ds
theorem LcAt.start {K : PySem.W.Frag} {G1 H1 : Hp} {Dl : Addr} {R : List D → Prop} (w : Wd M G1 H1) (hD : H1 Dl = none) (h : R []) : LcAt K M G1 H1 Dl R (upd H1 Dl (.lst [])) :=
  ⟨G1, [], [], .laidN w hD, w.gh.back hD, upd_same, .nil, h⟩
theorem LcAt.turn {K : PySem.W.Frag} {G1 H1 : Hp} {Dl : Addr} {R R' : List D → Prop} {H' : Hp} {tt : TT} {te : TE} {σ2 : St} {Pt : Bool → Prop} {Pe : D → Prop} (l : LcAt K M G1 H1 Dl R H') (hD : H1 Dl = none) (hz : ∀ ds, R ds → ds.length < 100000)
    (ht : ∀ G', Ex G1 G' → GT M tt σ2 G' Pt) (he : Pt true → ∀ G', Ex G1 G' → GE K M te σ2 G' Pe)
    (hy : ∀ ds e, R ds → Pt true → Pe e → R' (ds ++ [e])) (hn : ∀ ds, R ds → Pt false → R' ds) :
    tt σ2 H' fun b H3 => if b = true then te σ2 H3 fun y H4 => ∃ acc, H4 Dl = some (.lst acc) ∧ acc.length < sizeLine ∧ LcAt K M G1 H1 Dl R' (upd H4 Dl (.lst (acc ++ [y]))) else LcAt K M G1 H1 Dl R' H3 := by
  obtain ⟨Gi, acc, ds, s, gD, hl, hd, r⟩ := l
  refine ht Gi s.gg Gi H' (Ex.refl _) s.wd _ fun b G3 H3 s3 pb => ?_
  have nmD := s.nm hD
  have hl3 : H3 Dl = some (.lst acc) := s3.hh Dl _ nmD hl
  have gD3 : G3 Dl = none := s3.none (some_ne hl) gD
  cases b with
  | true =>
    refine iteT (he pb G3 (s.gg.trans s3.gg) G3 H3 (Ex.refl _) s3.wd _ fun y d G4 H4 s4 hy4 pe => ?_)
    have hl4 : H4 Dl = some (.lst acc) := s4.hh Dl _ nmD hl3
    have gD4 : G4 Dl = none := s4.none (some_ne hl3) gD3
    refine ⟨acc, hl4, sz' (by rw [dps_len hd]; exact hz ds r), G4, acc ++ [y], ds ++ [d], ?_, gD4, upd_same, dps_app ((s3.trans s4).gg.dps hd) (.cons hy4 .nil), hy _ _ r pb pe⟩
    exact ((s.trans s3).trans s4).mut hD gD4
  | false => exact iteF ⟨G3, acc, ds, s.trans s3, gD3, hl3, s3.gg.dps hd, hn ds r pb⟩
/-- over a list -/
theorem gl_lcL {iter : Expr} {g : TG} {tt : TT} {te : TE} {vs : List Nat} {ds0 : List D} (R : Nat → List D → Prop) (Pt : Nat → Bool → Prop) (Pe : Nat → D → Prop) (hsrc : ED X M iter σ G (.list ds0)) (hz : ds0.length < 100000) (hR : ∀ i ds, R i ds → ds.length ≤ i)
    {j : Nat} (hg : g = gName j) (hw : ∀ x, wipe ((wipe σ vs).set j (some x)) vs = wipe σ vs)
    (ht : ∀ i d v G', ds0[i]? = some d → Ex G G' → Dp X.K G' v d → GT M tt ((wipe σ vs).set j (some v)) G' (Pt i)) (he : ∀ i d v G', ds0[i]? = some d → Ex G G' → Dp X.K G' v d → Pt i true → GE X.K M te ((wipe σ vs).set j (some v)) G' (Pe i))
    (h0 : R 0 []) (hy : ∀ i ds e, i < ds0.length → R i ds → Pt i true → Pe i e → R (i + 1) (ds ++ [e])) (hn : ∀ i ds, i < ds0.length → R i ds → Pt i false → R (i + 1) ds) : GL X.K M (tLc (iList X.K (rdE X iter)) g tt te vs) σ G (R ds0.length) := fun G1 H1 x0 w Q q => by
  subst hg
  refine hsrc G1 H1 x0 w _ fun v G2 H2 s hv => ?_
  obtain ⟨a, xs, rfl, h1, h2⟩ := dp_lst hv
  refine ⟨a, rfl, ⟨xs, s.wd.gh.sql h1⟩, fun Dl hD => ?_⟩
  have hlen := dps_len h2
  have hlt : ∀ {i : Nat} {x : V}, xs[i]? = some x → i < ds0.length := fun {i x} hx => by
    have := (List.getElem?_eq_some_iff.mp hx).1; omega
  refine lc_list (xs := xs) (fun i H' => LcAt X.K M G2 H2 Dl (R i) H') (.start s.wd hD h0) (fun i H' _ l => ?_) (fun i x H' hx l => ⟨hw x, ?_⟩) (fun H' l => ?_)
  · obtain ⟨Gi, _, _, si, _⟩ := l
    exact (si.gg.trans si.wd.gh).sql h1
  · obtain ⟨d, hd, hxd⟩ := dps_getV h2 hx
    have hi := hlt hx
    have xs2 := x0.trans s.gg
    exact l.turn hD (fun ds r => Nat.lt_of_le_of_lt (hR i ds r) (by omega)) (fun G' y => ht i d x G' hd (xs2.trans y) (y.dp hxd)) (fun pt G' y => he i d x G' hd (xs2.trans y) (y.dp hxd) pt)
      (fun ds e r pt pe => hy i ds e hi r pt pe) (fun ds r pt => hn i ds hi r pt)
  · obtain ⟨Gi, acc, ds, si, gD, hl, hd, r⟩ := l
    rw [hlen] at r
    exact q Dl acc ds Gi H' (s.trans si) (s.back hD) gD hl hd r
/-- over a tuple -/
theorem gl_lcT {iter : Expr} {g : TG} {tt : TT} {te : TE} {vs : List Nat} {ds0 : List D} (R : Nat → List D → Prop) (Pt : Nat → Bool → Prop) (Pe : Nat → D → Prop) (hsrc : ED X M iter σ G (.tuple ds0)) (hz : ds0.length < 100000) (hR : ∀ i ds, R i ds → ds.length ≤ i)
    {j : Nat} (hg : g = gName j) (hw : ∀ x, wipe ((wipe σ vs).set j (some x)) vs = wipe σ vs)
    (ht : ∀ i d v G', ds0[i]? = some d → Ex G G' → Dp X.K G' v d → GT M tt ((wipe σ vs).set j (some v)) G' (Pt i)) (he : ∀ i d v G', ds0[i]? = some d → Ex G G' → Dp X.K G' v d → Pt i true → GE X.K M te ((wipe σ vs).set j (some v)) G' (Pe i))
    (h0 : R 0 []) (hy : ∀ i ds e, i < ds0.length → R i ds → Pt i true → Pe i e → R (i + 1) (ds ++ [e])) (hn : ∀ i ds, i < ds0.length → R i ds → Pt i false → R (i + 1) ds) : GL X.K M (tLc (iTup X.K (rdE X iter)) g tt te vs) σ G (R ds0.length) := fun G1 H1 x0 w Q q => by
  subst hg
  refine hsrc G1 H1 x0 w _ fun v G2 H2 s hv => ?_
  obtain ⟨a, xs, rfl, h1, h2⟩ := dp_tup hv
  refine ⟨a, rfl, ⟨xs, s.wd.gh.sqt h1⟩, fun Dl hD => ?_⟩
  have hlen := dps_len h2
  have hlt : ∀ {i : Nat} {x : V}, xs[i]? = some x → i < ds0.length := fun {i x} hx => by
    have := (List.getElem?_eq_some_iff.mp hx).1; omega
  refine lc_tup (xs := xs) (fun i H' => LcAt X.K M G2 H2 Dl (R i) H') (.start s.wd hD h0) (fun i H' _ l => ?_) (fun i x H' hx l => ⟨hw x, ?_⟩) (fun H' l => ?_)
  · obtain ⟨Gi, _, _, si, _⟩ := l
    exact (si.gg.trans si.wd.gh).sqt h1
  · obtain ⟨d, hd, hxd⟩ := dps_getV h2 hx
    have hi := hlt hx
    have xs2 := x0.trans s.gg
    exact l.turn hD (fun ds r => Nat.lt_of_le_of_lt (hR i ds r) (by omega)) (fun G' y => ht i d x G' hd (xs2.trans y) (y.dp hxd)) (fun pt G' y => he i d x G' hd (xs2.trans y) (y.dp hxd) pt)
      (fun ds e r pt pe => hy i ds e hi r pt pe) (fun ds r pt => hn i ds hi r pt)
  · obtain ⟨Gi, acc, ds, si, gD, hl, hd, r⟩ := l
    rw [hlen] at r
    exact q Dl acc ds Gi H' (s.trans si) (s.back hD) gD hl hd r
/-- over range(n), range(lo, n) -/
theorem lc_rg {lo : Int} {n : Nat} {g : TG} {tt : TT} {te : TE} {vs : List Nat} {G2 H2 : Hp} {Dl : Addr} {Qd : Hp → Prop} (R : Nat → List D → Prop) (Pt : Nat → Bool → Prop) (Pe : Nat → D → Prop) (hz : n < 100000) (hR : ∀ i ds, R i ds → ds.length ≤ i) (w : Wd M G2 H2) (hD : H2 Dl = none)
    {j : Nat} (hg : g = gName j) (hw : ∀ x, wipe ((wipe σ vs).set j (some x)) vs = wipe σ vs)
    (ht : ∀ i G', i < n → Ex G2 G' → GT M tt ((wipe σ vs).set j (some (.int (lo + i)))) G' (Pt i)) (he : ∀ i G', i < n → Ex G2 G' → Pt i true → GE X.K M te ((wipe σ vs).set j (some (.int (lo + i)))) G' (Pe i))
    (h0 : R 0 []) (hy : ∀ i ds e, i < n → R i ds → Pt i true → Pe i e → R (i + 1) (ds ++ [e])) (hn : ∀ i ds, i < n → R i ds → Pt i false → R (i + 1) ds) (hd : ∀ H, LcAt X.K M G2 H2 Dl (R n) H → Qd H) :
    ∃ W : Nat → Nat → Hp → Prop, (∃ m, W 0 m (upd H2 Dl (.lst []))) ∧ ∀ i m H, W i m H →
      ((Itr lo n).stop i H ∧ Qd H) ∨ ((Itr lo n).go i H ∧ ∃ Nx : Hp → Prop, (∀ H', Nx H' → ∃ m', m' < m ∧ W (i + 1) m' H') ∧ ∀ x H', (Itr lo n).yld i H x H' → g x (wipe σ vs) H' fun σ2 H2 => wipe σ2 vs = wipe σ vs ∧ tt σ2 H2 fun b H3 =>
        if b = true then te σ2 H3 fun y H4 => ∃ acc, H4 Dl = some (.lst acc) ∧ acc.length < sizeLine ∧ Nx (upd H4 Dl (.lst (acc ++ [y]))) else Nx H3) := by
  subst hg
  exact lc_range (lo := lo) (n := n) (fun i H' => LcAt X.K M G2 H2 Dl (R i) H') (.start w hD h0) (fun i H' hi l => ⟨hw _, l.turn hD (fun ds r => Nat.lt_of_le_of_lt (hR i ds r) (by omega)) (fun G' y => ht i G' hi y) (fun pt G' y => he i G' hi y pt)
      (fun ds e r pt pe => hy i ds e hi r pt pe) (fun ds r pt => hn i ds hi r pt)⟩) hd
theorem gl_lcR1 {es : List Expr} {g : TG} {tt : TT} {te : TE} {vs : List Nat} {n : Nat} (R : Nat → List D → Prop) (Pt : Nat → Bool → Prop) (Pe : Nat → D → Prop) (hsrc : EA X M es σ G (· = [.int n])) (hz : n < 100000) (hR : ∀ i ds, R i ds → ds.length ≤ i)
    {j : Nat} (hg : g = gName j) (hw : ∀ x, wipe ((wipe σ vs).set j (some x)) vs = wipe σ vs)
    (ht : ∀ (i : Nat) G', i < n → Ex G G' → GT M tt ((wipe σ vs).set j (some (.int i))) G' (Pt i)) (he : ∀ (i : Nat) G', i < n → Ex G G' → Pt i true → GE X.K M te ((wipe σ vs).set j (some (.int i))) G' (Pe i))
    (h0 : R 0 []) (hy : ∀ i ds e, i < n → R i ds → Pt i true → Pe i e → R (i + 1) (ds ++ [e])) (hn : ∀ i ds, i < n → R i ds → Pt i false → R (i + 1) ds) : GL X.K M (tLc (iRng1 (rdA X es)) g tt te vs) σ G (R n) := fun G1 H1 x0 w Q q =>
  hsrc G1 H1 x0 w _ fun vs' ds G2 H2 s hvs e => by
    subst e
    cases hvs with
    | cons h t =>
      cases t; cases h
      refine ⟨n, rfl, by omega, by omega, fun Dl hD => ?_⟩
      have e0 : ∀ i : Nat, (0 : Int) + (i : Int) = i := fun i => Int.zero_add _
      refine lc_rg (X := X) (lo := 0) (n := n) R Pt Pe hz hR s.wd hD hg hw (fun i G' hi y => ?_) (fun i G' hi y pt => ?_) h0 hy hn fun H l => ?_
      · rw [e0]; exact ht i G' hi ((x0.trans s.gg).trans y)
      · rw [e0]; exact he i G' hi ((x0.trans s.gg).trans y) pt
      · obtain ⟨Gi, acc, ds, si, gD, hl, hd, r⟩ := l
        exact q Dl acc ds Gi H (s.trans si) (s.back hD) gD hl hd r
theorem gl_lcR2 {es : List Expr} {g : TG} {tt : TT} {te : TE} {vs : List Nat} {lo hi : Int} (R : Nat → List D → Prop) (Pt : Nat → Bool → Prop) (Pe : Nat → D → Prop) (hsrc : EA X M es σ G (· = [.int lo, .int hi])) (h1 : -100000 < lo ∧ lo < 100000) (h2 : -100000 < hi ∧ hi < 100000) (hz : (hi - lo).toNat < 100000) (hR : ∀ i ds, R i ds → ds.length ≤ i)
    {j : Nat} (hg : g = gName j) (hw : ∀ x, wipe ((wipe σ vs).set j (some x)) vs = wipe σ vs)
    (ht : ∀ (i : Nat) G', i < (hi - lo).toNat → Ex G G' → GT M tt ((wipe σ vs).set j (some (.int (lo + i)))) G' (Pt i)) (he : ∀ (i : Nat) G', i < (hi - lo).toNat → Ex G G' → Pt i true → GE X.K M te ((wipe σ vs).set j (some (.int (lo + i)))) G' (Pe i))
    (h0 : R 0 []) (hy : ∀ i ds e, i < (hi - lo).toNat → R i ds → Pt i true → Pe i e → R (i + 1) (ds ++ [e])) (hn : ∀ i ds, i < (hi - lo).toNat → R i ds → Pt i false → R (i + 1) ds) : GL X.K M (tLc (iRng2 (rdA X es)) g tt te vs) σ G (R (hi - lo).toNat) := fun G1 H1 x0 w Q q =>
  hsrc G1 H1 x0 w _ fun vs' ds G2 H2 s hvs e => by
    subst e
    cases hvs with
    | cons h t =>
      cases t with
      | cons h' t =>
        cases t; cases h; cases h'
        refine ⟨lo, hi, rfl, ⟨by omega, by omega, by omega, by omega⟩, fun Dl hD => ?_⟩
        refine lc_rg (X := X) (lo := lo) (n := (hi - lo).toNat) R Pt Pe hz hR s.wd hD hg hw (fun i G' hi' y => ht i G' hi' ((x0.trans s.gg).trans y)) (fun i G' hi' y pt => he i G' hi' ((x0.trans s.gg).trans y) pt) h0 hy hn fun H l => ?_
        obtain ⟨Gi, acc, ds, si, gD, hl, hd, r⟩ := l
        exact q Dl acc ds Gi H (s.trans si) (s.back hD) gD hl hd r
/-! the block's own readings, the same for every block -/
def bkE (X : Cx) (scope : Scope) (e : Expr) : TE := fun σ H Q => ∀ (s : Shared) (H0 : Hp) (C : Addr) (cl : List (Str × Addr)) (fp : List Addr), rdE (X.blk s H0 scope (compEnvC scope cl C X.env) fp) e σ H Q
def bkT (X : Cx) (scope : Scope) (e : Expr) : TT := fun σ H Q => ∀ (s : Shared) (H0 : Hp) (C : Addr) (cl : List (Str × Addr)) (fp : List Addr), rdT (X.blk s H0 scope (compEnvC scope cl C X.env) fp) e σ H Q
theorem bk_pe {scope : Scope} {e : Expr} (s : Shared) (H0 : Hp) (C : Addr) (cl : List (Str × Addr)) (fp : List Addr) : PE (X.blk s H0 scope (compEnvC scope cl C X.env) fp) e (bkE X scope e) := ⟨fun pins st _ _ _ I h => (h s H0 C cl fp).run pins st I⟩
theorem bk_pt {scope : Scope} {e : Expr} (s : Shared) (H0 : Hp) (C : Addr) (cl : List (Str × Addr)) (fp : List Addr) : PT (X.blk s H0 scope (compEnvC scope cl C X.env) fp) e (bkT X scope e) := ⟨fun pins st _ _ _ I h => (h s H0 C cl fp).run pins st I⟩
theorem bk_e {scope : Scope} {e : Expr} {σ : St} {G : Hp} {P : D → Prop} (h : ∀ (s : Shared) (H0 : Hp) (C : Addr) (cl : List (Str × Addr)) (fp : List Addr), EP' (X.blk s H0 scope (compEnvC scope cl C X.env) fp) M e σ G P) : GE X.K M (bkE X scope e) σ G P := fun G1 H1 x w Q q s H0 C cl fp => h s H0 C cl fp G1 H1 x w Q q
theorem bk_t {scope : Scope} {e : Expr} {σ : St} {G : Hp} {P : Bool → Prop} (h : ∀ (s : Shared) (H0 : Hp) (C : Addr) (cl : List (Str × Addr)) (fp : List Addr), ET (X.blk s H0 scope (compEnvC scope cl C X.env) fp) M e σ G P) : GT M (bkT X scope e) σ G P := fun G1 H1 x w Q q s H0 C cl fp => h s H0 C cl fp G1 H1 x w Q q
theorem gt_yes {σ : St} {G : Hp} : GT M tYes σ G (· = true) := fun G1 H1 _ w Q q => q true G1 H1 (.refl w) rfl
/-- what a block is to know of itself -/
abbrev Blk (X : Cx) (scope : Scope) (P : Cx → Prop) : Prop := ∀ (s : Shared) (H0 : Hp) (C : Addr) (cl : List (Str × Addr)) (fp : List Addr), P (X.blk s H0 scope (compEnvC scope cl C X.env) fp)
/-! filter and map, over typed data -/
def fm {α : Type} (f : α → Bool) (g : α → D) (xs : List α) (i : Nat) (ds : List D) : Prop := ds = ((xs.take i).filter f).map g
theorem fm_len {α : Type} {f : α → Bool} {g : α → D} {xs : List α} {i : Nat} {ds : List D} (h : fm f g xs i ds) : ds.length ≤ i := by
  rw [h, List.length_map]
  exact Nat.le_trans (List.length_filter_le _ _) (by rw [List.length_take]; omega)
theorem fm_y {α : Type} {f : α → Bool} {g : α → D} {xs : List α} {i : Nat} {x : α} (hx : xs[i]? = some x) (hf : f x = true) {ds : List D} {e : D} (h : fm f g xs i ds) (he : e = g x) : fm f g xs (i + 1) (ds ++ [e]) := by
  unfold fm at h ⊢
  rw [h, he, List.take_succ, hx]; simp [hf]
theorem fm_n {α : Type} {f : α → Bool} {g : α → D} {xs : List α} {i : Nat} {x : α} (hx : xs[i]? = some x) (hf : f x = false) {ds : List D} (h : fm f g xs i ds) : fm f g xs (i + 1) ds := by
  unfold fm at h ⊢
  rw [h, List.take_succ, hx]; simp [hf]
theorem fm_all {α : Type} {f : α → Bool} {g : α → D} {xs : List α} {ds : List D} (h : fm f g xs xs.length ds) : ds = (xs.filter f).map g := by
  unfold fm at h; rw [h, List.take_length]
theorem at_map {α β : Type} {h : α → β} {xs : List α} {i : Nat} {d : β} (e : (xs.map h)[i]? = some d) : ∃ x, xs[i]? = some x ∧ d = h x := by
  rw [List.getElem?_map] at e
  cases q : xs[i]? with
  | none => rw [q] at e; cases e
  | some x => rw [q] at e; exact ⟨x, rfl, (Option.some.inj e).symm⟩
/-- a list comprehension: as a value, as what a name on its line gets; what its list holds -/
structure LC (X : Cx) (M : MS) (e : Expr) (σ : St) (G : Hp) (P : List D → Prop) : Prop where
  ex : ∃ te, PE X e te ∧ (∀ (i : Nat) (y : Str) (yp spos : Pos), X.N[i]? = some y → X.env.scope.names.lookup y = some .local → swapsWith e (some (.Name y yp)) spos.line X.env = pure true → PS X (.Assign [.Name y yp] e spos) (tAsg te (gName i))) ∧ GL X.K M te σ G P
theorem LC.el {e : Expr} {P : List D → Prop} (h : LC X M e σ G P) : EL X M e σ G P := let ⟨_, a, _, b⟩ := h.ex; b.el a
theorem LC.imp {e : Expr} {P R : List D → Prop} (h : LC X M e σ G P) (i : ∀ ds, P ds → R ds) : LC X M e σ G R :=
  let ⟨te, a, b, c⟩ := h.ex; ⟨te, a, b, fun G1 H1 x w Q q => c G1 H1 x w Q fun p vs ds G2 H2 s h1 h2 h3 h4 r => q p vs ds G2 H2 s h1 h2 h3 h4 (i ds r)⟩
theorem LC.of {tg elt iter : Expr} {ifs : List Expr} {scope : Scope} {own : List (Str × Nat)} {pos : Pos} {wi : TI} {g : TG} {tt : TT} {te : TE} {P : List D → Prop} (hc : X.calm = true) (hN : X.N.Nodup) (hi : PI X tg iter wi) (ok : BlkOk X.N X.env.scope scope own)
    (hg : Blk X scope fun Y => PG Y tg g) (ht : Blk X scope fun Y => PTs Y ifs tt) (he : Blk X scope fun Y => PE Y elt te) (hs : ∀ x, foldedSetIterable iter X.env x = pure x) (gl : GL X.K M (tLc wi g tt te (own.map (·.2))) σ G P) : LC X M (.ListComp elt [⟨tg, iter, ifs, 0⟩] scope pos) σ G P :=
  ⟨_, pe_lc hc hN hi ok hg ht he hs, fun i y yp spos a b c => ps_setLc hc hN a b c hi ok hg ht he hs, gl⟩
section
variable {elt iter c : Expr} {x : Str} {xp : Pos} {scope : Scope} {pos : Pos} {α : Type} {j : Nat} {enc : α → D} {xs : List α}
/-- [elt for x in a list if c], typed -/
theorem c_L1 (j : Nat) (f : α → Bool) (g : α → D) (hN : X.N.Nodup) (hsrc : ED X M iter σ G (.list (xs.map enc))) (hz : xs.length < 100000)
    (ht : ∀ y ∈ xs, ∀ v G', Ex G G' → Dp X.K G' v (enc y) → Blk X scope fun Y => ET Y M c ((wipe σ [j]).set j (some v)) G' (· = f y)) (he : ∀ y ∈ xs, f y = true → ∀ v G', Ex G G' → Dp X.K G' v (enc y) → Blk X scope fun Y => ED Y M elt ((wipe σ [j]).set j (some v)) G' (g y))
    (hc : X.calm = true := by rfl) (ok : BlkOk X.N X.env.scope scope [(x, j)] := by exact blkOk_by (by kernel_rfl)) (hj : X.N[j]? = some x := by rfl) (hl : Blk X scope fun Y => Loc Y.env.scope x := by first | exact fun _ _ _ _ _ => Or.inl rfl | exact fun _ _ _ _ _ => Or.inr rfl)
    (hf : Blk X scope fun Y => (Y.fn x = true ∨ Y.env.scope.names.lookup x = some .local) := by first | exact fun _ _ _ _ _ => Or.inl rfl | exact fun _ _ _ _ _ => Or.inr rfl) (hw : ∀ v, wipe ((wipe σ [j]).set j (some v)) [j] = wipe σ [j] := by exact fun _ => rfl) (hs : ∀ x, foldedSetIterable iter X.env x = pure x := by intro _; rfl) :
    LC X M (.ListComp elt [⟨.Name x xp, iter, [c], 0⟩] scope pos) σ G (· = (xs.filter f).map g) := by
  have z := gl_lcL (X := X) (M := M) (σ := σ) (G := G) (g := gName j) (tt := bkT X scope c) (te := bkE X scope elt) (vs := [j]) (fm f g xs) (fun i b => ∃ y, xs[i]? = some y ∧ b = f y) (fun i d => ∃ y, xs[i]? = some y ∧ d = g y) hsrc (by rw [List.length_map]; exact hz) (fun i ds h => fm_len h) rfl hw
    (fun i d v G' hd y hv => ?_) (fun i d v G' hd y hv pt => ?_) rfl (fun i ds e hi r pt pe => ?_) (fun i ds hi r pt => ?_)
  · refine .of (own := [(x, j)]) hc hN (pi_list (peR iter)) ok (fun s H0 C cl fp => pg_name hN hj (hl s H0 C cl fp) (hf s H0 C cl fp)) (fun s H0 C cl fp => pts_one (bk_pt s H0 C cl fp)) (fun s H0 C cl fp => bk_pe s H0 C cl fp) hs fun G1 H1 a b Q q => ?_
    exact z G1 H1 a b Q fun p vs ds G2 H2 s h1 h2 h3 h4 r => q p vs ds G2 H2 s h1 h2 h3 h4 (by rw [List.length_map] at r; exact fm_all r)
  · obtain ⟨y', hy', rfl⟩ := at_map hd
    exact bk_t fun s H0 C cl fp => (ht y' (List.mem_of_getElem? hy') v G' y hv s H0 C cl fp).imp fun b e => ⟨y', hy', e⟩
  · obtain ⟨y', hy', rfl⟩ := at_map hd
    obtain ⟨y2, hy2, e⟩ := pt
    rw [hy'] at hy2; cases hy2
    exact bk_e fun s H0 C cl fp => (he y' (List.mem_of_getElem? hy') e.symm v G' y hv s H0 C cl fp).p.imp fun b e => ⟨y', hy', e⟩
  · obtain ⟨y1, h1, e1⟩ := pt
    obtain ⟨y2, h2, e2⟩ := pe
    rw [h1] at h2; cases h2
    exact fm_y h1 e1.symm r e2
  · obtain ⟨y1, h1, e1⟩ := pt
    exact fm_n h1 e1.symm r
theorem c_L0 (j : Nat) (g : α → D) (hN : X.N.Nodup) (hsrc : ED X M iter σ G (.list (xs.map enc))) (hz : xs.length < 100000)
    (he : ∀ y ∈ xs, ∀ v G', Ex G G' → Dp X.K G' v (enc y) → Blk X scope fun Y => ED Y M elt ((wipe σ [j]).set j (some v)) G' (g y))
    (hc : X.calm = true := by rfl) (ok : BlkOk X.N X.env.scope scope [(x, j)] := by exact blkOk_by (by kernel_rfl)) (hj : X.N[j]? = some x := by rfl) (hl : Blk X scope fun Y => Loc Y.env.scope x := by first | exact fun _ _ _ _ _ => Or.inl rfl | exact fun _ _ _ _ _ => Or.inr rfl)
    (hf : Blk X scope fun Y => (Y.fn x = true ∨ Y.env.scope.names.lookup x = some .local) := by first | exact fun _ _ _ _ _ => Or.inl rfl | exact fun _ _ _ _ _ => Or.inr rfl) (hw : ∀ v, wipe ((wipe σ [j]).set j (some v)) [j] = wipe σ [j] := by exact fun _ => rfl) (hs : ∀ x, foldedSetIterable iter X.env x = pure x := by intro _; rfl) :
    LC X M (.ListComp elt [⟨.Name x xp, iter, [], 0⟩] scope pos) σ G (· = xs.map g) := by
  have z := gl_lcL (X := X) (M := M) (σ := σ) (G := G) (g := gName j) (tt := tYes) (te := bkE X scope elt) (vs := [j]) (fm (fun _ => true) g xs) (fun i b => b = true) (fun i d => ∃ y, xs[i]? = some y ∧ d = g y) hsrc (by rw [List.length_map]; exact hz) (fun i ds h => fm_len h) rfl hw
    (fun i d v G' hd y hv => gt_yes) (fun i d v G' hd y hv pt => ?_) rfl (fun i ds e hi r pt pe => ?_) (fun i ds hi r pt => by cases pt)
  · refine .of (own := [(x, j)]) hc hN (pi_list (peR iter)) ok (fun s H0 C cl fp => pg_name hN hj (hl s H0 C cl fp) (hf s H0 C cl fp)) (fun s H0 C cl fp => pts_nil) (fun s H0 C cl fp => bk_pe s H0 C cl fp) hs fun G1 H1 a b Q q => ?_
    exact z G1 H1 a b Q fun p vs ds G2 H2 s h1 h2 h3 h4 r => q p vs ds G2 H2 s h1 h2 h3 h4 (by rw [List.length_map] at r; rw [fm_all r, List.filter_eq_self.mpr fun _ _ => rfl])
  · obtain ⟨y', hy', rfl⟩ := at_map hd
    exact bk_e fun s H0 C cl fp => (he y' (List.mem_of_getElem? hy') v G' y hv s H0 C cl fp).p.imp fun b e => ⟨y', hy', e⟩
  · obtain ⟨y2, h2, e2⟩ := pe
    exact fm_y h2 rfl r e2
/-- [elt for x in a tuple if c], typed -/
theorem c_T1 (j : Nat) (f : α → Bool) (g : α → D) (hN : X.N.Nodup) (hsrc : ED X M iter σ G (.tuple (xs.map enc))) (hz : xs.length < 100000)
    (ht : ∀ y ∈ xs, ∀ v G', Ex G G' → Dp X.K G' v (enc y) → Blk X scope fun Y => ET Y M c ((wipe σ [j]).set j (some v)) G' (· = f y)) (he : ∀ y ∈ xs, f y = true → ∀ v G', Ex G G' → Dp X.K G' v (enc y) → Blk X scope fun Y => ED Y M elt ((wipe σ [j]).set j (some v)) G' (g y))
    (hc : X.calm = true := by rfl) (ok : BlkOk X.N X.env.scope scope [(x, j)] := by exact blkOk_by (by kernel_rfl)) (hj : X.N[j]? = some x := by rfl) (hl : Blk X scope fun Y => Loc Y.env.scope x := by first | exact fun _ _ _ _ _ => Or.inl rfl | exact fun _ _ _ _ _ => Or.inr rfl)
    (hf : Blk X scope fun Y => (Y.fn x = true ∨ Y.env.scope.names.lookup x = some .local) := by first | exact fun _ _ _ _ _ => Or.inl rfl | exact fun _ _ _ _ _ => Or.inr rfl) (hw : ∀ v, wipe ((wipe σ [j]).set j (some v)) [j] = wipe σ [j] := by exact fun _ => rfl) (hs : ∀ x, foldedSetIterable iter X.env x = pure x := by intro _; rfl) :
    LC X M (.ListComp elt [⟨.Name x xp, iter, [c], 0⟩] scope pos) σ G (· = (xs.filter f).map g) := by
  have z := gl_lcT (X := X) (M := M) (σ := σ) (G := G) (g := gName j) (tt := bkT X scope c) (te := bkE X scope elt) (vs := [j]) (fm f g xs) (fun i b => ∃ y, xs[i]? = some y ∧ b = f y) (fun i d => ∃ y, xs[i]? = some y ∧ d = g y) hsrc (by rw [List.length_map]; exact hz) (fun i ds h => fm_len h) rfl hw
    (fun i d v G' hd y hv => ?_) (fun i d v G' hd y hv pt => ?_) rfl (fun i ds e hi r pt pe => ?_) (fun i ds hi r pt => ?_)
  · refine .of (own := [(x, j)]) hc hN (pi_tup (peR iter)) ok (fun s H0 C cl fp => pg_name hN hj (hl s H0 C cl fp) (hf s H0 C cl fp)) (fun s H0 C cl fp => pts_one (bk_pt s H0 C cl fp)) (fun s H0 C cl fp => bk_pe s H0 C cl fp) hs fun G1 H1 a b Q q => ?_
    exact z G1 H1 a b Q fun p vs ds G2 H2 s h1 h2 h3 h4 r => q p vs ds G2 H2 s h1 h2 h3 h4 (by rw [List.length_map] at r; exact fm_all r)
  · obtain ⟨y', hy', rfl⟩ := at_map hd
    exact bk_t fun s H0 C cl fp => (ht y' (List.mem_of_getElem? hy') v G' y hv s H0 C cl fp).imp fun b e => ⟨y', hy', e⟩
  · obtain ⟨y', hy', rfl⟩ := at_map hd
    obtain ⟨y2, hy2, e⟩ := pt
    rw [hy'] at hy2; cases hy2
    exact bk_e fun s H0 C cl fp => (he y' (List.mem_of_getElem? hy') e.symm v G' y hv s H0 C cl fp).p.imp fun b e => ⟨y', hy', e⟩
  · obtain ⟨y1, h1, e1⟩ := pt
    obtain ⟨y2, h2, e2⟩ := pe
    rw [h1] at h2; cases h2
    exact fm_y h1 e1.symm r e2
  · obtain ⟨y1, h1, e1⟩ := pt
    exact fm_n h1 e1.symm r
theorem c_T0 (j : Nat) (g : α → D) (hN : X.N.Nodup) (hsrc : ED X M iter σ G (.tuple (xs.map enc))) (hz : xs.length < 100000)
    (he : ∀ y ∈ xs, ∀ v G', Ex G G' → Dp X.K G' v (enc y) → Blk X scope fun Y => ED Y M elt ((wipe σ [j]).set j (some v)) G' (g y))
    (hc : X.calm = true := by rfl) (ok : BlkOk X.N X.env.scope scope [(x, j)] := by exact blkOk_by (by kernel_rfl)) (hj : X.N[j]? = some x := by rfl) (hl : Blk X scope fun Y => Loc Y.env.scope x := by first | exact fun _ _ _ _ _ => Or.inl rfl | exact fun _ _ _ _ _ => Or.inr rfl)
    (hf : Blk X scope fun Y => (Y.fn x = true ∨ Y.env.scope.names.lookup x = some .local) := by first | exact fun _ _ _ _ _ => Or.inl rfl | exact fun _ _ _ _ _ => Or.inr rfl) (hw : ∀ v, wipe ((wipe σ [j]).set j (some v)) [j] = wipe σ [j] := by exact fun _ => rfl) (hs : ∀ x, foldedSetIterable iter X.env x = pure x := by intro _; rfl) :
    LC X M (.ListComp elt [⟨.Name x xp, iter, [], 0⟩] scope pos) σ G (· = xs.map g) := by
  have z := gl_lcT (X := X) (M := M) (σ := σ) (G := G) (g := gName j) (tt := tYes) (te := bkE X scope elt) (vs := [j]) (fm (fun _ => true) g xs) (fun i b => b = true) (fun i d => ∃ y, xs[i]? = some y ∧ d = g y) hsrc (by rw [List.length_map]; exact hz) (fun i ds h => fm_len h) rfl hw
    (fun i d v G' hd y hv => gt_yes) (fun i d v G' hd y hv pt => ?_) rfl (fun i ds e hi r pt pe => ?_) (fun i ds hi r pt => by cases pt)
  · refine .of (own := [(x, j)]) hc hN (pi_tup (peR iter)) ok (fun s H0 C cl fp => pg_name hN hj (hl s H0 C cl fp) (hf s H0 C cl fp)) (fun s H0 C cl fp => pts_nil) (fun s H0 C cl fp => bk_pe s H0 C cl fp) hs fun G1 H1 a b Q q => ?_
    exact z G1 H1 a b Q fun p vs ds G2 H2 s h1 h2 h3 h4 r => q p vs ds G2 H2 s h1 h2 h3 h4 (by rw [List.length_map] at r; rw [fm_all r, List.filter_eq_self.mpr fun _ _ => rfl])
  · obtain ⟨y', hy', rfl⟩ := at_map hd
    exact bk_e fun s H0 C cl fp => (he y' (List.mem_of_getElem? hy') v G' y hv s H0 C cl fp).p.imp fun b e => ⟨y', hy', e⟩
  · obtain ⟨y2, h2, e2⟩ := pe
    exact fm_y h2 rfl r e2
/-! over range(n) -/
variable {rp cp : Pos} {a : Expr}
theorem c_R1P {n : Nat} (j : Nat) (R : Nat → List D → Prop) (Pt : Nat → Bool → Prop) (Pe : Nat → D → Prop) (hN : X.N.Nodup) (mr : X.mg "range" = none) (hsrc : ED X M a σ G (.int n)) (hz : n < 100000) (hR : ∀ i ds, R i ds → ds.length ≤ i)
    (ht : ∀ (i : Nat) G', i < n → Ex G G' → Blk X scope fun Y => ET Y M c ((wipe σ [j]).set j (some (.int i))) G' (Pt i)) (he : ∀ (i : Nat) G', i < n → Ex G G' → Pt i true → Blk X scope fun Y => EP' Y M elt ((wipe σ [j]).set j (some (.int i))) G' (Pe i))
    (h0 : R 0 []) (hy : ∀ i ds e, i < n → R i ds → Pt i true → Pe i e → R (i + 1) (ds ++ [e])) (hn : ∀ i ds, i < n → R i ds → Pt i false → R (i + 1) ds)
    (hc : X.calm = true := by rfl) (ok : BlkOk X.N X.env.scope scope [(x, j)] := by exact blkOk_by (by kernel_rfl)) (hj : X.N[j]? = some x := by rfl) (hl : Blk X scope fun Y => Loc Y.env.scope x := by first | exact fun _ _ _ _ _ => Or.inl rfl | exact fun _ _ _ _ _ => Or.inr rfl)
    (hf : Blk X scope fun Y => (Y.fn x = true ∨ Y.env.scope.names.lookup x = some .local) := by first | exact fun _ _ _ _ _ => Or.inl rfl | exact fun _ _ _ _ _ => Or.inr rfl) (hw : ∀ v, wipe ((wipe σ [j]).set j (some v)) [j] = wipe σ [j] := by exact fun _ => rfl)
    (gr : Gl X "range" := by rfl) (hs : ∀ x, foldedSetIterable (.Call (.Name "range" rp) [a] [] cp) X.env x = pure x := by intro _; rfl) (h1 : starEach [a] X.env = [(false, eval a X.env)] := by exact star_last rfl) (na : starEach [a] X.env = (false, eval a X.env) :: starEach [] X.env := by exact star_one rfl) :
    LC X M (.ListComp elt [⟨.Name x xp, .Call (.Name "range" rp) [a] [] cp, [c], 0⟩] scope pos) σ G (R n) :=
  .of (own := [(x, j)]) hc hN (pi_range1 gr mr (paR [a]) h1) ok (fun s H0 C cl fp => pg_name hN hj (hl s H0 C cl fp) (hf s H0 C cl fp)) (fun s H0 C cl fp => pts_one (bk_pt s H0 C cl fp)) (fun s H0 C cl fp => bk_pe s H0 C cl fp) hs
    (gl_lcR1 (X := X) R Pt Pe (a_cons hsrc a_nil na) hz hR rfl hw (fun i G' hi y => bk_t (ht i G' hi y)) (fun i G' hi y pt => bk_e (he i G' hi y pt)) h0 hy hn)
theorem c_R1P0 {n : Nat} (j : Nat) (R : Nat → List D → Prop) (Pe : Nat → D → Prop) (hN : X.N.Nodup) (mr : X.mg "range" = none) (hsrc : ED X M a σ G (.int n)) (hz : n < 100000) (hR : ∀ i ds, R i ds → ds.length ≤ i)
    (he : ∀ (i : Nat) G', i < n → Ex G G' → Blk X scope fun Y => EP' Y M elt ((wipe σ [j]).set j (some (.int i))) G' (Pe i))
    (h0 : R 0 []) (hy : ∀ i ds e, i < n → R i ds → Pe i e → R (i + 1) (ds ++ [e]))
    (hc : X.calm = true := by rfl) (ok : BlkOk X.N X.env.scope scope [(x, j)] := by exact blkOk_by (by kernel_rfl)) (hj : X.N[j]? = some x := by rfl) (hl : Blk X scope fun Y => Loc Y.env.scope x := by first | exact fun _ _ _ _ _ => Or.inl rfl | exact fun _ _ _ _ _ => Or.inr rfl)
    (hf : Blk X scope fun Y => (Y.fn x = true ∨ Y.env.scope.names.lookup x = some .local) := by first | exact fun _ _ _ _ _ => Or.inl rfl | exact fun _ _ _ _ _ => Or.inr rfl) (hw : ∀ v, wipe ((wipe σ [j]).set j (some v)) [j] = wipe σ [j] := by exact fun _ => rfl)
    (gr : Gl X "range" := by rfl) (hs : ∀ x, foldedSetIterable (.Call (.Name "range" rp) [a] [] cp) X.env x = pure x := by intro _; rfl) (h1 : starEach [a] X.env = [(false, eval a X.env)] := by exact star_last rfl) (na : starEach [a] X.env = (false, eval a X.env) :: starEach [] X.env := by exact star_one rfl) :
    LC X M (.ListComp elt [⟨.Name x xp, .Call (.Name "range" rp) [a] [] cp, [], 0⟩] scope pos) σ G (R n) :=
  .of (own := [(x, j)]) hc hN (pi_range1 gr mr (paR [a]) h1) ok (fun s H0 C cl fp => pg_name hN hj (hl s H0 C cl fp) (hf s H0 C cl fp)) (fun s H0 C cl fp => pts_nil) (fun s H0 C cl fp => bk_pe s H0 C cl fp) hs
    (gl_lcR1 (X := X) R (fun _ b => b = true) Pe (a_cons hsrc a_nil na) hz hR rfl hw (fun i G' hi y => gt_yes) (fun i G' hi y pt => bk_e (he i G' hi y)) h0 (fun i ds e hi r _ pe => hy i ds e hi r pe) (fun i ds hi r pt => by cases pt))
theorem c_R1 {n : Nat} (j : Nat) (f : Nat → Bool) (g : Nat → D) (hN : X.N.Nodup) (mr : X.mg "range" = none) (hsrc : ED X M a σ G (.int n)) (hz : n < 100000)
    (ht : ∀ (i : Nat) G', i < n → Ex G G' → Blk X scope fun Y => ET Y M c ((wipe σ [j]).set j (some (.int i))) G' (· = f i)) (he : ∀ (i : Nat) G', i < n → Ex G G' → f i = true → Blk X scope fun Y => ED Y M elt ((wipe σ [j]).set j (some (.int i))) G' (g i))
    (hc : X.calm = true := by rfl) (ok : BlkOk X.N X.env.scope scope [(x, j)] := by exact blkOk_by (by kernel_rfl)) (hj : X.N[j]? = some x := by rfl) (hl : Blk X scope fun Y => Loc Y.env.scope x := by first | exact fun _ _ _ _ _ => Or.inl rfl | exact fun _ _ _ _ _ => Or.inr rfl)
    (hf : Blk X scope fun Y => (Y.fn x = true ∨ Y.env.scope.names.lookup x = some .local) := by first | exact fun _ _ _ _ _ => Or.inl rfl | exact fun _ _ _ _ _ => Or.inr rfl) (hw : ∀ v, wipe ((wipe σ [j]).set j (some v)) [j] = wipe σ [j] := by exact fun _ => rfl)
    (gr : Gl X "range" := by rfl) (hs : ∀ x, foldedSetIterable (.Call (.Name "range" rp) [a] [] cp) X.env x = pure x := by intro _; rfl) (h1 : starEach [a] X.env = [(false, eval a X.env)] := by exact star_last rfl) (na : starEach [a] X.env = (false, eval a X.env) :: starEach [] X.env := by exact star_one rfl) :
    LC X M (.ListComp elt [⟨.Name x xp, .Call (.Name "range" rp) [a] [] cp, [c], 0⟩] scope pos) σ G (· = ((List.range n).filter f).map g) := by
  have at' : ∀ {i}, i < n → (List.range n)[i]? = some i := fun {i} hi => by simp [hi]
  refine (c_R1P j (fm f g (List.range n)) (fun i b => b = f i) (fun i d => d = g i) hN mr hsrc hz (fun i ds h => fm_len h) ht
    (fun i G' hi y pt s H0 C cl fp => (he i G' hi y pt.symm s H0 C cl fp).p) rfl (fun i ds e hi r pt pe => fm_y (at' hi) pt.symm r pe) (fun i ds hi r pt => fm_n (at' hi) pt.symm r) hc ok hj hl hf hw gr hs h1 na).imp fun ds r => ?_
  have r' : fm f g (List.range n) (List.range n).length ds := by rw [List.length_range]; exact r
  exact fm_all r'
theorem c_R10 {n : Nat} (j : Nat) (g : Nat → D) (hN : X.N.Nodup) (mr : X.mg "range" = none) (hsrc : ED X M a σ G (.int n)) (hz : n < 100000)
    (he : ∀ (i : Nat) G', i < n → Ex G G' → Blk X scope fun Y => ED Y M elt ((wipe σ [j]).set j (some (.int i))) G' (g i))
    (hc : X.calm = true := by rfl) (ok : BlkOk X.N X.env.scope scope [(x, j)] := by exact blkOk_by (by kernel_rfl)) (hj : X.N[j]? = some x := by rfl) (hl : Blk X scope fun Y => Loc Y.env.scope x := by first | exact fun _ _ _ _ _ => Or.inl rfl | exact fun _ _ _ _ _ => Or.inr rfl)
    (hf : Blk X scope fun Y => (Y.fn x = true ∨ Y.env.scope.names.lookup x = some .local) := by first | exact fun _ _ _ _ _ => Or.inl rfl | exact fun _ _ _ _ _ => Or.inr rfl) (hw : ∀ v, wipe ((wipe σ [j]).set j (some v)) [j] = wipe σ [j] := by exact fun _ => rfl)
    (gr : Gl X "range" := by rfl) (hs : ∀ x, foldedSetIterable (.Call (.Name "range" rp) [a] [] cp) X.env x = pure x := by intro _; rfl) (h1 : starEach [a] X.env = [(false, eval a X.env)] := by exact star_last rfl) (na : starEach [a] X.env = (false, eval a X.env) :: starEach [] X.env := by exact star_one rfl) :
    LC X M (.ListComp elt [⟨.Name x xp, .Call (.Name "range" rp) [a] [] cp, [], 0⟩] scope pos) σ G (· = (List.range n).map g) := by
  have at' : ∀ {i}, i < n → (List.range n)[i]? = some i := fun {i} hi => by simp [hi]
  refine (c_R1P0 j (fm (fun _ => true) g (List.range n)) (fun i d => d = g i) hN mr hsrc hz (fun i ds h => fm_len h)
    (fun i G' hi y s H0 C cl fp => (he i G' hi y s H0 C cl fp).p) rfl (fun i ds e hi r pe => fm_y (at' hi) rfl r pe) hc ok hj hl hf hw gr hs h1 na).imp fun ds r => ?_
  have r' : fm (fun _ => true) g (List.range n) (List.range n).length ds := by rw [List.length_range]; exact r
  rw [fm_all r', List.filter_eq_self.mpr fun _ _ => rfl]
end
end
end PL
namespace PL
open PySem L2
section
variable {X : Cx} {M : MS} {σ : St} {G : Hp}
/-! built-ins -/
section
variable {e : Expr} {es : List Expr} {x : Str} {p pos : Pos} {d : D}
/-- a built-in that lays nothing -/
theorem e_bP {id : String} {r : List V → Hp → VK → Prop} {P : List D → Prop} {T : D → Prop} (hc : CallR X (.builtin id) r) (hm : X.mg x = none) (hv : bootBuiltins x = some (.builtin id)) (ha : EA X M (e :: es) σ G P) (hr : ∀ vs ds G1 H1 (Q : VK), Ex G1 H1 → DpAll X.K G1 vs ds → P ds → (∀ v d, Dp X.K G1 v d → T d → Q v H1) → r vs H1 Q)
    (hg : Gl X x := by rfl) (hn : x ≠ "__name__" := by decide) (hdb : (x == ("__debug__" : Str)) = false := by decide) (he : starEach (e :: es) X.env = (false, eval e X.env) :: starEach es X.env := by exact star_one rfl) (hpl : (backTo pos (starEach es X.env)).any (·.1) = false := by exact back_ok rfl) : EP' X M (.Call (.Name x p) (e :: es) [] pos) σ G T := fun G1 H1 y w Q q =>
  toE (pe_callB hc hg hm hv (paR (e :: es)) hn hdb he hpl) (ha G1 H1 y w _ fun vs ds G2 H2 s hvs pd => hr vs ds G2 H2 Q s.wd.gh hvs pd fun v d hd t => q v d G2 H2 s hd t)
theorem e_bTyP {T0 : String} {r : List V → Hp → VK → Prop} {P : List D → Prop} {T : D → Prop} (hc : CallR X (.type T0) r) (hm : X.mg x = none) (hv : bootBuiltins x = some (.type T0)) (ha : EA X M (e :: es) σ G P) (hr : ∀ vs ds G1 H1 (Q : VK), Ex G1 H1 → DpAll X.K G1 vs ds → P ds → (∀ v d, Dp X.K G1 v d → T d → Q v H1) → r vs H1 Q)
    (hg : Gl X x := by rfl) (hn : x ≠ "__name__" := by decide) (hdb : (x == ("__debug__" : Str)) = false := by decide) (he : starEach (e :: es) X.env = (false, eval e X.env) :: starEach es X.env := by exact star_one rfl) (hpl : (backTo pos (starEach es X.env)).any (·.1) = false := by exact back_ok rfl) : EP' X M (.Call (.Name x p) (e :: es) [] pos) σ G T := fun G1 H1 y w Q q =>
  toE (pe_callTy hc hg hm hv (paR (e :: es)) hn hdb he hpl) (ha G1 H1 y w _ fun vs ds G2 H2 s hvs pd => hr vs ds G2 H2 Q s.wd.gh hvs pd fun v d hd t => q v d G2 H2 s hd t)
end
theorem dps1 {K : PySem.W.Frag} {G : Hp} {vs : List V} {d : D} (h : DpAll K G vs [d]) : ∃ v, vs = [v] ∧ Dp K G v d := by
  cases h with
  | cons a t => cases t; exact ⟨_, rfl, a⟩
theorem dps2 {K : PySem.W.Frag} {G : Hp} {vs : List V} {d e : D} (h : DpAll K G vs [d, e]) : ∃ v u, vs = [v, u] ∧ Dp K G v d ∧ Dp K G u e := by
  cases h with
  | cons a t => cases t with
    | cons b t => cases t; exact ⟨_, _, rfl, a, b⟩
theorem dps3 {K : PySem.W.Frag} {G : Hp} {vs : List V} {d e f : D} (h : DpAll K G vs [d, e, f]) : ∃ v u w, vs = [v, u, w] ∧ Dp K G v d ∧ Dp K G u e ∧ Dp K G w f := by
  cases h with
  | cons a t => obtain ⟨u, w, rfl, b, c⟩ := dps2 t; exact ⟨_, _, _, rfl, a, b, c⟩
theorem dps4 {K : PySem.W.Frag} {G : Hp} {vs : List V} {d e f g : D} (h : DpAll K G vs [d, e, f, g]) : ∃ v u w x, vs = [v, u, w, x] ∧ Dp K G v d ∧ Dp K G u e ∧ Dp K G w f ∧ Dp K G x g := by
  cases h with
  | cons a t => obtain ⟨u, w, x, rfl, b, c, d⟩ := dps3 t; exact ⟨_, _, _, _, rfl, a, b, c, d⟩
theorem dps5 {K : PySem.W.Frag} {G : Hp} {vs : List V} {d e f g h : D} (hh : DpAll K G vs [d, e, f, g, h]) : ∃ v u w x y, vs = [v, u, w, x, y] ∧ Dp K G v d ∧ Dp K G u e ∧ Dp K G w f ∧ Dp K G x g ∧ Dp K G y h := by
  cases hh with
  | cons a t => obtain ⟨u, w, x, y, rfl, b, c, d, e⟩ := dps4 t; exact ⟨_, _, _, _, _, rfl, a, b, c, d, e⟩
section
variable {a : Expr} {p pos : Pos} {d : D} {ds : List D}
theorem e_lenL (hm : X.mg "len" = none) (h : ED X M a σ G (.list ds)) (hg : Gl X "len" := by rfl) (na : starEach [a] X.env = (false, eval a X.env) :: starEach [] X.env := by exact star_one rfl) : ED X M (.Call (.Name "len" p) [a] [] pos) σ G (.int ds.length) :=
  EP'.d (e_bP (T := (· = .int ds.length)) call_len_seq hm PySem.boot_len (a_cons h a_nil na) (fun vs ds' G1 H1 Q y hv pd k => by
    subst pd
    obtain ⟨v, rfl, hd⟩ := dps1 hv
    obtain ⟨q, xs, rfl, h1, h2⟩ := dp_lst hd
    exact ⟨q, xs, rfl, .inl (y.sql h1), by rw [dps_len h2]; exact k _ _ (.int _) rfl⟩) hg (by decide) (by decide) na)
theorem e_lenT (hm : X.mg "len" = none) (h : ED X M a σ G (.tuple ds)) (hg : Gl X "len" := by rfl) (na : starEach [a] X.env = (false, eval a X.env) :: starEach [] X.env := by exact star_one rfl) : ED X M (.Call (.Name "len" p) [a] [] pos) σ G (.int ds.length) :=
  EP'.d (e_bP (T := (· = .int ds.length)) call_len_seq hm PySem.boot_len (a_cons h a_nil na) (fun vs ds' G1 H1 Q y hv pd k => by
    subst pd
    obtain ⟨v, rfl, hd⟩ := dps1 hv
    obtain ⟨q, xs, rfl, h1, h2⟩ := dp_tup hd
    exact ⟨q, xs, rfl, .inr (y.sqt h1), by rw [dps_len h2]; exact k _ _ (.int _) rfl⟩) hg (by decide) (by decide) na)
theorem e_all {bs : List Bool} (hm : X.mg "all" = none) (hc : X.calm = true) (h : ED X M a σ G (.list (bs.map .bool))) (hg : Gl X "all" := by rfl) (na : starEach [a] X.env = (false, eval a X.env) :: starEach [] X.env := by exact star_one rfl) : ED X M (.Call (.Name "all" p) [a] [] pos) σ G (.bool (bs.all id)) :=
  EP'.d (e_bP (T := (· = .bool (bs.all id))) (cr_all hc) hm (by decide +kernel) (a_cons h a_nil na) (fun vs ds' G1 H1 Q y hv pd k => by
    subst pd
    obtain ⟨v, rfl, hd⟩ := dps1 hv
    obtain ⟨q, xs, rfl, h1, h2⟩ := dp_lst hd
    have e := dps_bls h2; subst e
    exact ⟨q, bs, rfl, y.sql h1, k _ _ (.bl _) rfl⟩) hg (by decide) (by decide) na)
theorem e_any {bs : List Bool} (hm : X.mg "any" = none) (hc : X.calm = true) (h : ED X M a σ G (.list (bs.map .bool))) (hg : Gl X "any" := by rfl) (na : starEach [a] X.env = (false, eval a X.env) :: starEach [] X.env := by exact star_one rfl) : ED X M (.Call (.Name "any" p) [a] [] pos) σ G (.bool (bs.any id)) :=
  EP'.d (e_bP (T := (· = .bool (bs.any id))) (cr_any hc) hm (by decide +kernel) (a_cons h a_nil na) (fun vs ds' G1 H1 Q y hv pd k => by
    subst pd
    obtain ⟨v, rfl, hd⟩ := dps1 hv
    obtain ⟨q, xs, rfl, h1, h2⟩ := dp_lst hd
    have e := dps_bls h2; subst e
    exact ⟨q, bs, rfl, y.sql h1, k _ _ (.bl _) rfl⟩) hg (by decide) (by decide) na)
theorem e_sum {ns : List Int} (hm : X.mg "sum" = none) (hc : X.calm = true) (h : ED X M a σ G (.list (ns.map .int))) (hg : Gl X "sum" := by rfl) (na : starEach [a] X.env = (false, eval a X.env) :: starEach [] X.env := by exact star_one rfl) : ED X M (.Call (.Name "sum" p) [a] [] pos) σ G (.int ns.sum) :=
  EP'.d (e_bP (T := (· = .int ns.sum)) (cr_sum hc) hm (by decide +kernel) (a_cons h a_nil na) (fun vs ds' G1 H1 Q y hv pd k => by
    subst pd
    obtain ⟨v, rfl, hd⟩ := dps1 hv
    obtain ⟨q, xs, rfl, h1, h2⟩ := dp_lst hd
    have e := dps_ints h2; subst e
    exact ⟨q, ns, rfl, y.sql h1, k _ _ (.int _) rfl⟩) hg (by decide) (by decide) na)
theorem i_abs {P T : Int → Prop} (hm : X.mg "abs" = none) (h : EI X M a σ G P) (hc : ∀ i, P i → T (if i < 0 then -i else i)) (hg : Gl X "abs" := by rfl) (na : starEach [a] X.env = (false, eval a X.env) :: starEach [] X.env := by exact star_one rfl) : EI X M (.Call (.Name "abs" p) [a] [] pos) σ G T :=
  e_bP call_abs hm (by decide +kernel) (a_consP (T := fun ds => ∃ i, ds = [.int i] ∧ P i) h a_nil (fun d ds ⟨i, e1, p1⟩ e2 => ⟨i, by rw [e1, e2], p1⟩) na) (fun vs ds' G1 H1 Q y hv ⟨i, e, pi⟩ k => by
    subst e
    obtain ⟨v, rfl, hd⟩ := dps1 hv
    cases hd
    exact ⟨i, rfl, k _ _ (.int _) ⟨_, rfl, hc i pi⟩⟩) hg (by decide) (by decide) na
theorem i_int {P : Int → Prop} (hm : X.mg "int" = none) (h : EI X M a σ G P) (hg : Gl X "int" := by rfl) (na : starEach [a] X.env = (false, eval a X.env) :: starEach [] X.env := by exact star_one rfl) : EI X M (.Call (.Name "int" p) [a] [] pos) σ G P :=
  e_bTyP call_int1 hm (by decide +kernel) (a_consP (T := fun ds => ∃ i, ds = [.int i] ∧ P i) h a_nil (fun d ds ⟨i, e1, p1⟩ e2 => ⟨i, by rw [e1, e2], p1⟩) na) (fun vs ds' G1 H1 Q y hv ⟨i, e, pi⟩ k => by
    subst e
    obtain ⟨v, rfl, hd⟩ := dps1 hv
    cases hd
    exact .inl ⟨i, rfl, k _ _ (.int _) ⟨_, rfl, pi⟩⟩) hg (by decide) (by decide) na
/-- tuple(a list) -/
theorem e_tupleP {P : List D → Prop} (hm : X.mg "tuple" = none) (h : EP' X M a σ G (fun d => ∃ ds, d = .list ds ∧ P ds)) (hg : Gl X "tuple" := by rfl) (na : starEach [a] X.env = (false, eval a X.env) :: starEach [] X.env := by exact star_one rfl) : EP' X M (.Call (.Name "tuple" p) [a] [] pos) σ G (fun d => ∃ ds, d = .tuple ds ∧ P ds) := fun G1 H1 y w Q q =>
  toE (pe_callTy call_tuple_of hg hm (by decide +kernel) (paR [a]) (by decide) (by decide) na) ((a_consP (T := fun ds => ∃ ds', ds = [.list ds'] ∧ P ds') h a_nil (fun d ds ⟨i, e1, p1⟩ e2 => ⟨i, by rw [e1, e2], p1⟩) na) G1 H1 y w _ fun vs ds' G2 H2 s hvs ⟨ds, e, pd⟩ => by
    subst e
    obtain ⟨v, rfl, hd⟩ := dps1 hvs
    obtain ⟨p', xs, rfl, h1, h2⟩ := dp_lst hd
    exact ⟨p', xs, rfl, .inl ⟨s.wd.gh.sql h1, fun l hl => q _ _ _ _ (s.trans (.laid s.wd hl)) (.tup (.inl (.inl upd_same)) ((Stp.laid s.wd hl).gg.dps h2)) ⟨ds, rfl, pd⟩⟩⟩)
theorem e_tuple (hm : X.mg "tuple" = none) (h : ED X M a σ G (.list ds)) (hg : Gl X "tuple" := by rfl) (na : starEach [a] X.env = (false, eval a X.env) :: starEach [] X.env := by exact star_one rfl) : ED X M (.Call (.Name "tuple" p) [a] [] pos) σ G (.tuple ds) :=
  ((e_tupleP (P := (· = ds)) hm (h.p.imp fun d e => ⟨ds, e, rfl⟩) hg na).imp fun d ⟨ds', e1, e2⟩ => by rw [e1, e2]).d
/-- list(a list) -/
theorem l_list (hm : X.mg "list" = none) (h : ED X M a σ G (.list ds)) (hg : Gl X "list" := by rfl) (na : starEach [a] X.env = (false, eval a X.env) :: starEach [] X.env := by exact star_one rfl) : EL X M (.Call (.Name "list" p) [a] [] pos) σ G (· = ds) := fun G1 H1 y w Q q =>
  toE (pe_callTy call_list_of hg hm (by decide +kernel) (paR [a]) (by decide) (by decide) na) ((a_cons h a_nil na) G1 H1 y w _ fun vs ds' G2 H2 s hvs e => by
    subst e
    obtain ⟨v, rfl, hd⟩ := dps1 hvs
    obtain ⟨p', xs, rfl, h1, h2⟩ := dp_lst hd
    exact ⟨p', xs, rfl, .inl (s.wd.gh.sql h1), fun l hl => q l xs ds G2 _ (s.trans (.laidN s.wd hl)) (s.back hl) (s.wd.gh.back hl) upd_same h2 rfl⟩)
/-- sorted(a list of ints) -/
theorem l_sortedI {P : List Int → Prop} {ns : List Int} (hm : X.mg "sorted" = none) (h : ED X M a σ G (.list (ns.map .int))) (hp : ∀ ns', ns'.Perm ns → ns'.Pairwise (· ≤ ·) → P ns') (hg : Gl X "sorted" := by rfl) (na : starEach [a] X.env = (false, eval a X.env) :: starEach [] X.env := by exact star_one rfl) : EL X M (.Call (.Name "sorted" p) [a] [] pos) σ G (fun ds => ∃ ns', ds = ns'.map .int ∧ P ns') := fun G1 H1 y w Q q =>
  toE (pe_callB cr_sortedI hg hm (by decide +kernel) (paR [a]) (by decide) (by decide) na) ((a_cons h a_nil na) G1 H1 y w _ fun vs ds' G2 H2 s hvs e => by
    subst e
    obtain ⟨v, rfl, hd⟩ := dps1 hvs
    obtain ⟨p', xs, rfl, h1, h2⟩ := dp_lst hd
    have e := dps_ints h2; subst e
    exact ⟨p', ns, rfl, s.wd.gh.sql h1, fun ns' l pe so hl => q l _ _ G2 _ (s.trans (.laidN s.wd hl)) (s.back hl) (s.wd.gh.back hl) upd_same (dps_of_ints ns') ⟨ns', rfl, hp ns' pe so⟩⟩)
end
/-! slices -/
section
variable {a : Expr} {pos p2 : Pos} {ds : List D} {lo hi : Option Expr}
/-- a part of a slice -/
def EO (X : Cx) (M : MS) (e : Option Expr) (σ : St) (G : Hp) (o : Option Int) : Prop := ∃ t, PO X e t ∧ ∀ G1 H1, Ex G G1 → Wd M G1 H1 → ∀ Q : Option Int → Hp → Prop, (∀ G2 H2, Stp M G1 H1 G2 H2 → Q o H2) → t σ H1 Q
theorem o_none : EO X M none σ G none := ⟨_, po_none, fun G1 H1 _ w Q q => q G1 H1 (.refl w)⟩
theorem o_some {e : Expr} {i : Int} (h : ED X M e σ G (.int i)) : EO X M (some e) σ G (some i) := ⟨_, po_some (peR e), fun G1 H1 y w Q q => h G1 H1 y w _ fun v G2 H2 s hv => by cases hv; exact ⟨i, rfl, q G2 H2 s⟩⟩
def cutD (xs : List D) (lo hi : Option Int) : List D := (xs.drop (HT.sIx xs.length 0 lo)).take (HT.sIx xs.length xs.length hi - HT.sIx xs.length 0 lo)
theorem l_slice {i j : Option Int} (h : ED X M a σ G (.list ds)) (h1 : EO X M lo σ G i) (h2 : EO X M hi σ G j) : EL X M (.Subscript a (.Slice lo hi none p2) pos) σ G (· = cutD ds i j) := fun G1 H1 y w Q q => by
  obtain ⟨t1, p1, f1⟩ := h1
  obtain ⟨t2, p2, f2⟩ := h2
  refine toE (pe_slice sl_list (peR a) p1 p2) (h G1 H1 y w _ fun v G2 H2 s hv => f1 G2 H2 (y.trans s.gg) s.wd _ fun G3 H3 s3 => f2 G3 H3 (y.trans (s.gg.trans s3.gg)) s3.wd _ fun G4 H4 s4 => ?_)
  obtain ⟨p', xs, rfl, e1, e2⟩ := dp_lst hv
  have s' := (s.trans s3).trans s4
  refine ⟨p', xs, rfl, ((s3.gg.trans s4.gg).trans s4.wd.gh).sql e1, fun l hl => q l _ _ G4 _ (s'.trans (.laidN s'.wd hl)) (s'.back hl) (s'.wd.gh.back hl) upd_same ?_ rfl⟩
  have hd := (s3.gg.trans s4.gg).dps e2
  unfold cutV cutD
  rw [dps_len hd]
  exact dps_take _ (dps_drop _ hd)
end
/-! tuples added -/
theorem e_catT {a b : Expr} {pos : Pos} {cs ds : List D} (ha : ED X M a σ G (.tuple cs)) (hb : ED X M b σ G (.tuple ds)) (hl : cs.length + ds.length ≤ 100000) : ED X M (.BinOp a .Add b pos) σ G (.tuple (cs ++ ds)) := fun G1 H1 x w Q q =>
  toE (pe_op op_catA (peR a) (peR b)) (ha G1 H1 x w _ fun v G2 H2 s hv => hb G2 H2 (x.trans s.gg) s.wd _ fun u G3 H3 s' hu => by
    obtain ⟨p, xs, rfl, h1, h2⟩ := dp_tup hv
    obtain ⟨p', ys, rfl, h3, h4⟩ := dp_tup hu
    have st := s.trans s'
    have h1' := s'.gg.sqt h1
    have h2' := s'.gg.dps h2
    refine ⟨p, p', xs, ys, rfl, rfl, st.wd.gh.sqt h1', st.wd.gh.sqt h3, sz (by rw [dps_len h2, dps_len h4]; exact hl), fun e => ?_, fun e1 e2 => ?_, fun e1 e2 r hr => ?_⟩
    · subst e
      cases h2
      exact q _ G3 H3 st (.tup h3 h4)
    · subst e2
      cases h4
      exact q _ G3 H3 st (by rw [List.append_nil]; exact .tup h1' h2')
    · exact q _ _ _ (st.trans (.laid st.wd hr)) (.tup (.inl (.inl upd_same)) ((Stp.laid st.wd hr).gg.dps (dps_app h2' h4))))
end
end PL
namespace PL
open PySem L2
/-! statements -/
section
variable {X : Cx} {M : MS} {σ : St} {F G H : Hp} {D0 : Ends}
theorem b_nil (h : D0.nx σ H) : rdB X [] D0 σ H := toB pss_nil h
theorem b_cons {st : Stmt} {rest : List Stmt} (h : rdS X st { D0 with nx := rdB X rest D0 } σ H) : rdB X (st :: rest) D0 σ H := toB (pss_cons (psR st) (pbR rest)) h
/-- the list of statements, told by rfl: faster than by b_cons -/
theorem b_at {l rest : List Stmt} {st : Stmt} (e : l = st :: rest) (h : rdB X (st :: rest) D0 σ H) : rdB X l D0 σ H := by rw [e]; exact h
theorem b_one {st : Stmt} (h : rdS X st D0 σ H) : rdB X [st] D0 σ H := toB (pss_one (psR st)) h
theorem s_ret {e : Expr} {pos : Pos} (h : rdE X e σ H D0.rt) : rdS X (.Return (some e) pos) D0 σ H := toS (ps_ret (peR e)) h
theorem s_pass {pos : Pos} (h : D0.nx σ H) : rdS X (.Pass pos) D0 σ H := toS ps_pass h
/-- x = e -/
theorem s_set (i : Nat) {x : Str} {e : Expr} {pos xp : Pos} (h : rdE X e σ H fun v H1 => D0.nx (σ.set i (some v)) H1) (hN : X.N.Nodup) (hi : X.N[i]? = some x := by rfl) (hx : Loc X.env.scope x := by first | exact Or.inl rfl | exact Or.inr rfl) (hs : swapsWith e (some (.Name x xp)) pos.line X.env = pure false := by exact sw_no rfl)
    (hf : X.fn x = true ∨ X.env.scope.names.lookup x = some .local := by first | exact .inl rfl | exact .inr rfl) : rdS X (.Assign [.Name x xp] e pos) D0 σ H := toS (ps_set hN hi hx (peR e) hs hf) h
/-- x = [..] on one line, x a local -/
theorem s_setC (i : Nat) {P : List D → Prop} {y : Str} {yp : Pos} {e : Expr} {spos : Pos} (w : Wd M G H) (h : LC X M e σ G P) (k : ∀ p vs ds G1 H1, Stp M G H G1 H1 → H p = none → G1 p = none → H1 p = some (.lst vs) → DpAll X.K G1 vs ds → P ds → D0.nx (σ.set i (some (.ref p))) H1)
    (hsw : swapsWith e (some (.Name y yp)) spos.line X.env = pure true := by exact sw_true rfl rfl rfl (by decide +kernel)) (hy : X.N[i]? = some y := by rfl) (hyl : X.env.scope.names.lookup y = some .local := by rfl) : rdS X (.Assign [.Name y yp] e spos) D0 σ H := by
  obtain ⟨te, _, ps, gl⟩ := h.ex
  exact toS (ps i y yp spos hy hyl hsw) (gl G H (Ex.refl _) w _ fun p vs ds G1 H1 s h1 h2 h3 h4 r => k p vs ds G1 H1 s h1 h2 h3 h4 r)
theorem s_if {P : Bool → Prop} {c : Expr} {a b : List Stmt} {pos : Pos} (w : Wd M G H) (h : ET X M c σ G P) (h1 : ∀ G1 H1, Stp M G H G1 H1 → P true → rdB X a D0 σ H1) (h2 : ∀ G1 H1, Stp M G H G1 H1 → P false → rdB X b D0 σ H1) : rdS X (.If c a b pos) D0 σ H :=
  toS (ps_if (ptR c) (pbR a) (pbR b)) (h G H (Ex.refl _) w _ fun t G1 H1 s p => by
    cases t with
    | true => exact iteT (h1 G1 H1 s p)
    | false => exact iteF (h2 G1 H1 s p))
/-- f(..) alone -/
theorem s_drop {e : Expr} {pos : Pos} (h : rdE X e σ H fun _ H1 => D0.nx σ H1) (hs : swapsWith e none pos.line X.env = pure false := by exact sw_no rfl) : rdS X (.Expr e pos) D0 σ H := toS (ps_expr (peR e) hs) h
/-- l.append(e): the list at l is not known -/
theorem s_app {P : D → Prop} {o e : Expr} {apos cpos pos : Pos} {l : Addr} {vs : List V} (w : Wd M G H) (ho : ∀ H1 (Q : VK), Q (.ref l) H1 → rdE X o σ H1 Q) (hl : H l = some (.lst vs)) (nm : ¬ M.m l) (hz : vs.length < 100000) (h : EP' X M e σ G P)
    (k : ∀ v d G1 H1, Stp M G H G1 H1 → H1 l = some (.lst vs) → Dp X.K G1 v d → P d → D0.nx σ (upd H1 l (.lst (vs ++ [v]))))
    (hs : swapsWith (.Call (.Attribute o "append" apos) [e] [] cpos) none pos.line X.env = pure false := by exact sw_no rfl)
    (bm : ∀ {to : TE} {t : TA}, PE X o to → PA X [e] t → PE X (.Call (.Attribute o "append" apos) [e] [] cpos) (tBM X.K "list" rAppend to t) := by exact fun ho ha => pe_bm PySem.F.plainAttrs_list PySem.F.slot_list_append PySem.F.type_list_append mt_append ho ha)
    (na : starEach [e] X.env = (false, eval e X.env) :: starEach [] X.env := by exact star_one rfl) : rdS X (.Expr (.Call (.Attribute o "append" apos) [e] [] cpos) pos) D0 σ H :=
  toS (ps_expr (bm (peR o) (paR [e])) hs) (ho H _ ⟨Or.inl ⟨rfl, _, Or.inl (Or.inl hl)⟩, (a_consP (T := fun ds => ∃ d, ds = [d] ∧ P d) h a_nil (fun d ds p e2 => ⟨d, by rw [e2], p⟩) na) G H (Ex.refl _) w _ fun ws ds G1 H1 s hws ⟨d, e1, p⟩ => by
    subst e1
    obtain ⟨v, rfl, hv⟩ := dps1 hws
    have hl1 := s.hh l _ nm hl
    exact ⟨l, vs, v, rfl, rfl, hl1, sz' hz, k v d G1 H1 s hl1 hv p⟩⟩)
/-- l.extend(a list) -/
theorem s_ext {P : List D → Prop} {o e : Expr} {apos cpos pos : Pos} {l : Addr} {vs : List V} (w : Wd M G H) (ho : ∀ H1 (Q : VK), Q (.ref l) H1 → rdE X o σ H1 Q) (hl : H l = some (.lst vs)) (nm : ¬ M.m l)
    (h : ∀ (Q : VK), (∀ p ws ds G1 H1, Stp M G H G1 H1 → H1 p = some (.lst ws) → DpAll X.K G1 ws ds → P ds → vs.length + ws.length < 100000 ∧ Q (.ref p) H1) → rdE X e σ H Q)
    (k : ∀ ws ds G1 H1, Stp M G H G1 H1 → H1 l = some (.lst vs) → DpAll X.K G1 ws ds → P ds → vs.length + ws.length < 100000 ∧ D0.nx σ (upd H1 l (.lst (vs ++ ws))))
    (hs : swapsWith (.Call (.Attribute o "extend" apos) [e] [] cpos) none pos.line X.env = pure false := by exact sw_no rfl)
    (bm : ∀ {to : TE} {t : TA}, PE X o to → PA X [e] t → PE X (.Call (.Attribute o "extend" apos) [e] [] cpos) (tBM X.K "list" rExtend to t) := by exact fun ho ha => pe_bm PySem.F.plainAttrs_list PySem.F.slot_list_extend PySem.F.type_list_extend mt_extend ho ha)
    (na : starEach [e] X.env = (false, eval e X.env) :: starEach [] X.env := by exact star_one rfl) : rdS X (.Expr (.Call (.Attribute o "extend" apos) [e] [] cpos) pos) D0 σ H :=
  toS (ps_expr (bm (peR o) (pa_cons (peR e) pa_nil na)) hs) (ho H _ ⟨Or.inl ⟨rfl, _, Or.inl (Or.inl hl)⟩, h _ fun p ws ds G1 H1 s hp hd pd => by
    have hl1 := s.hh l _ nm hl
    obtain ⟨z, q⟩ := k ws ds G1 H1 s hl1 hd pd
    exact ⟨z, l, p, vs, ws, rfl, rfl, hl1, hp, sz (Nat.le_of_lt z), q⟩⟩)
theorem r_var (i : Nat) {x : Str} {xp : Pos} {v : V} (hs : σ[i]? = some (some v)) (hN : X.N[i]? = some x := by rfl) (hv : Vis X.env.scope x := by first | exact Or.inl rfl | exact Or.inr (Or.inl rfl) | exact Or.inr (Or.inr rfl))
    (hd : (x == ("__debug__" : Str)) = false := by decide) (hcd : (x == ("__classdict__" : Str)) = false := by decide) : ∀ H1 (Q : VK), Q v H1 → rdE X (.Name x xp) σ H1 Q := fun H1 Q q => toE (pe_var hN hv hd hcd) ⟨v, hs, q⟩
/-- for target in a list of data -/
theorem s_forL {tg iter : Expr} {g : TG} {body : List Stmt} {pos : Pos} {ds0 : List D} (w : Wd M G H) (hsrc : ED X M iter σ G (.list ds0)) (hc : X.calm = true) (hg : PG X tg g)
    (k : ∀ xs G1 H1, Stp M G H G1 H1 → DpAll X.K G1 xs ds0 → ∃ Pv : Nat → St → Hp → Prop, Pv 0 σ H1 ∧ (∀ i σ' H', Pv i σ' H' → Ex G1 H') ∧
      (∀ i d v σ' H', ds0[i]? = some d → Dp X.K G1 v d → Pv i σ' H' → g v σ' H' fun σ2 H2 => rdB X body { D0 with nx := Pv (i + 1), ct := Pv (i + 1), bk := D0.nx } σ2 H2) ∧ ∀ σ' H', Pv ds0.length σ' H' → D0.nx σ' H')
    (hp : PassesOwn (model X.prog X.w) X.A X.env X.xe := by exact PassesOwn.never) (hs : ∀ x, foldedSetIterable iter X.env x = pure x := by intro _; rfl) : rdS X (.For tg iter body [] pos) D0 σ H :=
  toS (ps_for hp hc (pi_list (peR iter)) hg (pbR body) hs) (hsrc G H (Ex.refl _) w _ fun v G1 H1 s hv => by
    obtain ⟨a, xs, rfl, h1, h2⟩ := dp_lst hv
    obtain ⟨Pv, p0, pe, pt, pd⟩ := k xs G1 H1 s h2
    refine ⟨a, rfl, ⟨xs, s.wd.gh.sql h1⟩, for_list (xs := xs) Pv p0 (fun i σ' H' _ p => (pe i σ' H' p).sql h1) (fun i x σ' H' hx p => ?_) (fun σ' H' p => pd σ' H' (by rw [← dps_len h2]; exact p))⟩
    obtain ⟨d, hd, hxd⟩ := dps_getV h2 hx
    exact pt i d x σ' H' hd hxd p)
theorem s_forT {tg iter : Expr} {g : TG} {body : List Stmt} {pos : Pos} {ds0 : List D} (w : Wd M G H) (hsrc : ED X M iter σ G (.tuple ds0)) (hc : X.calm = true) (hg : PG X tg g)
    (k : ∀ xs G1 H1, Stp M G H G1 H1 → DpAll X.K G1 xs ds0 → ∃ Pv : Nat → St → Hp → Prop, Pv 0 σ H1 ∧ (∀ i σ' H', Pv i σ' H' → Ex G1 H') ∧
      (∀ i d v σ' H', ds0[i]? = some d → Dp X.K G1 v d → Pv i σ' H' → g v σ' H' fun σ2 H2 => rdB X body { D0 with nx := Pv (i + 1), ct := Pv (i + 1), bk := D0.nx } σ2 H2) ∧ ∀ σ' H', Pv ds0.length σ' H' → D0.nx σ' H')
    (hp : PassesOwn (model X.prog X.w) X.A X.env X.xe := by exact PassesOwn.never) (hs : ∀ x, foldedSetIterable iter X.env x = pure x := by intro _; rfl) : rdS X (.For tg iter body [] pos) D0 σ H :=
  toS (ps_for hp hc (pi_tup (peR iter)) hg (pbR body) hs) (hsrc G H (Ex.refl _) w _ fun v G1 H1 s hv => by
    obtain ⟨a, xs, rfl, h1, h2⟩ := dp_tup hv
    obtain ⟨Pv, p0, pe, pt, pd⟩ := k xs G1 H1 s h2
    refine ⟨a, rfl, ⟨xs, s.wd.gh.sqt h1⟩, for_tup (xs := xs) Pv p0 (fun i σ' H' _ p => (pe i σ' H' p).sqt h1) (fun i x σ' H' hx p => ?_) (fun σ' H' p => pd σ' H' (by rw [← dps_len h2]; exact p))⟩
    obtain ⟨d, hd, hxd⟩ := dps_getV h2 hx
    exact pt i d x σ' H' hd hxd p)
/-- for x in range(n) -/
theorem s_forR {tg a : Expr} {rp cp : Pos} {g : TG} {body : List Stmt} {pos : Pos} {n : Nat} (w : Wd M G H) (hsrc : ED X M a σ G (.int n)) (hz : n < 100000) (hc : X.calm = true) (mr : X.mg "range" = none) (hg : PG X tg g)
    (k : ∀ G1 H1, Stp M G H G1 H1 → ∃ Pv : Nat → St → Hp → Prop, Pv 0 σ H1 ∧ (∀ (i : Nat) σ' H', i < n → Pv i σ' H' → g (.int i) σ' H' fun σ2 H2 => rdB X body { D0 with nx := Pv (i + 1), ct := Pv (i + 1), bk := D0.nx } σ2 H2) ∧ ∀ σ' H', Pv n σ' H' → D0.nx σ' H')
    (gr : Gl X "range" := by rfl) (na : starEach [a] X.env = (false, eval a X.env) :: starEach [] X.env := by exact star_one rfl) (h1 : starEach [a] X.env = [(false, eval a X.env)] := by exact star_last rfl)
    (hp : PassesOwn (model X.prog X.w) X.A X.env X.xe := by exact PassesOwn.never) (hs : ∀ x, foldedSetIterable (.Call (.Name "range" rp) [a] [] cp) X.env x = pure x := by intro _; rfl) : rdS X (.For tg (.Call (.Name "range" rp) [a] [] cp) body [] pos) D0 σ H :=
  toS (ps_for hp hc (pi_range1 gr mr (paR [a]) h1) hg (pbR body) hs) ((a_cons hsrc a_nil na) G H (Ex.refl _) w _ fun vs ds G1 H1 s hvs e => by
    subst e
    obtain ⟨v, rfl, hv⟩ := dps1 hvs
    cases hv
    obtain ⟨Pv, p0, pt, pd⟩ := k G1 H1 s
    refine ⟨n, rfl, by omega, by omega, for_range (lo := 0) (n := n) Pv p0 (fun i σ' H' hi p => ?_) pd⟩
    have z := pt i σ' H' hi p
    rw [Int.zero_add]; exact z)
end
/-! defs -/
section
variable (P : Program) (w : World) (K : PySem.W.Frag) (mg : Str → Option Value) (base : Heap)
/-- a def of the text stands behind the top by its name -/
structure TD (x : Str) (st : Stmt) (ps : List Str) (f : Addr) (fd : FuncData) : Prop where
  fn : Fun K x x st f fd
  g : mg x = some (.ref f)
  b : Binds K fd ps []
/-- it keeps a promise, by level k -/
structure DF (x : Str) (k : Nat) (ps : List Str) (sp : Sp) : Prop where
  ex : ∃ f fd, FnOk P w K mg base CX0 k f fd ps sp ∧ mg x = some (.ref f) ∧ PySem.W.keepIn K (.ref f) = true ∧ Binds K fd ps []
end
/-- data in, data out -/
def SpR (K : PySem.W.Frag) (R : List D → D → Prop) : Sp := fun vs H Q _ => ∃ G ds d, Ex G H ∧ DpAll K G vs ds ∧ R ds d ∧ ∀ v G' H', Stp M0 G H G' H' → Dp K G' v d → Q v H'
/-- data in, a new list out -/
def SpL (K : PySem.W.Frag) (R : List D → List D → Prop) : Sp := fun vs H Q _ => ∃ G ds es, Ex G H ∧ DpAll K G vs ds ∧ R ds es ∧ ∀ p ws G' H', Stp M0 G H G' H' → H p = none → G' p = none → H' p = some (.lst ws) → DpAll K G' ws es → Q (.ref p) H'
section
variable {X : Cx} {M : MS} {σ : St} {G : Hp} {x : Str} {p pos : Pos} {e : Expr} {es : List Expr} {k : Nat} {ps : List Str}
theorem e_call {R : List D → D → Prop} {P : List D → Prop} {T : D → Prop} (F : DF X.prog X.w X.K X.mg X.base x k ps (SpR X.K R)) (hr : Room k X.A) (ha : EA X M (e :: es) σ G P) (h : ∀ ds, P ds → ∃ d, R ds d ∧ T d) (hg : Gl X x := by rfl) (hdb : (x == ("__debug__" : Str)) = false := by decide)
    (he : starEach (e :: es) X.env = (false, eval e X.env) :: starEach es X.env := by exact star_one rfl) (hpl : (backTo pos (starEach es X.env)).any (·.1) = false := by exact back_ok rfl) : EP' X M (.Call (.Name x p) (e :: es) [] pos) σ G T := fun G1 H1 y w Q q => by
  obtain ⟨f, fd, ok, gm, kp, b⟩ := F.ex
  refine toE (pe_call ok hr hg gm kp b .nil pass0 (paR (e :: es)) hdb he hpl) (ha G1 H1 y w _ fun vs ds G2 H2 s hvs pd => ?_)
  obtain ⟨d, r, t⟩ := h ds pd
  refine ⟨G2, ds, d, s.wd.gh, by rw [List.append_nil]; exact hvs, r, fun v G3 H3 s3 hv => q v d G3 H3 (s.trans (s3.lift s.wd)) hv t⟩
theorem e_calld {R : List D → D → Prop} {ds : List D} {d : D} (F : DF X.prog X.w X.K X.mg X.base x k ps (SpR X.K R)) (hr : Room k X.A) (ha : EA X M (e :: es) σ G (· = ds)) (h : R ds d) (hg : Gl X x := by rfl) (hdb : (x == ("__debug__" : Str)) = false := by decide)
    (he : starEach (e :: es) X.env = (false, eval e X.env) :: starEach es X.env := by exact star_one rfl) (hpl : (backTo pos (starEach es X.env)).any (·.1) = false := by exact back_ok rfl) : ED X M (.Call (.Name x p) (e :: es) [] pos) σ G d :=
  (e_call F hr ha (T := (· = d)) (fun ds' e => ⟨d, by rw [e]; exact h, rfl⟩) hg hdb he hpl).d
theorem l_call {R : List D → List D → Prop} {P : List D → Prop} {T : List D → Prop} (F : DF X.prog X.w X.K X.mg X.base x k ps (SpL X.K R)) (hr : Room k X.A) (ha : EA X M (e :: es) σ G P) (h : ∀ ds, P ds → ∃ es, R ds es ∧ T es) (hg : Gl X x := by rfl) (hdb : (x == ("__debug__" : Str)) = false := by decide)
    (he : starEach (e :: es) X.env = (false, eval e X.env) :: starEach es X.env := by exact star_one rfl) (hpl : (backTo pos (starEach es X.env)).any (·.1) = false := by exact back_ok rfl) : EL X M (.Call (.Name x p) (e :: es) [] pos) σ G T := fun G1 H1 y w Q q => by
  obtain ⟨f, fd, ok, gm, kp, b⟩ := F.ex
  refine toE (pe_call ok hr hg gm kp b .nil pass0 (paR (e :: es)) hdb he hpl) (ha G1 H1 y w _ fun vs ds G2 H2 s hvs pd => ?_)
  obtain ⟨d, r, t⟩ := h ds pd
  refine ⟨G2, ds, d, s.wd.gh, by rw [List.append_nil]; exact hvs, r, fun a ws G3 H3 s3 h1 h2 h3 hv => q a ws d G3 H3 (s.trans (s3.lift s.wd)) (s.back h1) h2 h3 hv t⟩
theorem l_calld {R : List D → List D → Prop} {ds : List D} {ds' : List D} (F : DF X.prog X.w X.K X.mg X.base x k ps (SpL X.K R)) (hr : Room k X.A) (ha : EA X M (e :: es) σ G (· = ds)) (h : R ds ds') (hg : Gl X x := by rfl) (hdb : (x == ("__debug__" : Str)) = false := by decide)
    (he : starEach (e :: es) X.env = (false, eval e X.env) :: starEach es X.env := by exact star_one rfl) (hpl : (backTo pos (starEach es X.env)).any (·.1) = false := by exact back_ok rfl) : EL X M (.Call (.Name x p) (e :: es) [] pos) σ G (· = ds') :=
  l_call F hr ha (T := (· = ds')) (fun ds'' e => ⟨ds', by rw [e]; exact h, rfl⟩) hg hdb he hpl
end
/-- what a body ends in: data, a new list -/
def RetD (K : PySem.W.Frag) (G H : Hp) (d : D) : VK := fun v H' => ∃ G', Stp M0 G H G' H' ∧ Dp K G' v d
def RetL (K : PySem.W.Frag) (G H : Hp) (ds : List D) : VK := fun v H' => ∃ p ws G', v = .ref p ∧ Stp M0 G H G' H' ∧ H p = none ∧ G' p = none ∧ H' p = some (.lst ws) ∧ DpAll K G' ws ds
section
variable {P : Program} {w : World} {K : PySem.W.Frag} {mg : Str → Option Value} {base : Heap} {x : Str} {st : Stmt} {f : Addr} {fd : FuncData} {N ps : List Str} {k : Nat}
/-- the context of a def's body -/
abbrev bd (P : Program) (w : World) (K : PySem.W.Frag) (mg : Str → Option Value) (base : Heap) (N : List Str) (x : Str) (st : Stmt) (f : Addr) (cdv : Value) (A : Around) (outer : List Env) (s : Shared) (H : Hp) (E : XK) : Cx := (cxOf CX0 P w K mg base N x (defScope st) f cdv A outer s H E).nox
theorem rdB_mono {X : Cx} {b : List Stmt} {σ : St} {H : Hp} {nx : St → Hp → Prop} {rt rt' : VK} (h : rdB X b { nx := nx, rt := rt } σ H) {nx' : St → Hp → Prop} (hn : ∀ σ H, nx σ H → nx' σ H) (hr : ∀ v H, rt v H → rt' v H) : rdB X b { nx := nx', rt := rt' } σ H := ⟨fun pins s I =>
  thn (h.run pins s I) fun fl s' q => by
    cases fl with
    | next => obtain ⟨σ', H', I', z⟩ := q; exact ⟨σ', H', I', hn _ _ z⟩
    | brk => obtain ⟨σ', H', I', z⟩ := q; exact z.elim
    | cont => obtain ⟨σ', H', I', z⟩ := q; exact z.elim
    | ret u => obtain ⟨v, σ', H', I', r, z⟩ := q; exact ⟨v, σ', H', I', r, hr _ _ z⟩⟩
theorem df_R {R : List D → D → Prop} (T : TD K mg x st ps f fd) (S : FnScope N ps (defScope st)) (len : ∀ ds d, R ds d → ds.length = ps.length)
    (hb : ∀ (cdv : Value) (A : Around) (outer : List Env) (s : Shared) (H : Hp) (E : XK) (G : Hp) (vs : List V) (ds : List D) (d : D), Room k (bd P w K mg base N x st f cdv A outer s H E).A → Ex G H → DpAll K G vs ds → R ds d →
      rdB (bd P w K mg base N x st f cdv A outer s H E) (defBody st) { nx := fun _ H' => RetD K G H d .non H', rt := RetD K G H d } (start N vs) H) : DF P w K mg base x (k + 1) ps (SpR K R) := by
  refine ⟨f, fd, T.fn.ok S (fun vs H Q E h => ?_) (fun cdv A outer s H vs Q E hr h => ?_), T.g, T.fn.kp, T.b⟩
  · obtain ⟨G, ds, d, _, hd, r, _⟩ := h
    rw [dps_len hd]; exact len ds d r
  · obtain ⟨G, ds, d, gh, hd, r, q⟩ := h
    refine ⟨_, pbR _, rdB_mono (hb cdv A outer s H E G vs ds d hr gh hd r) (fun σ H' ⟨G', s', z⟩ => q _ G' H' s' z) (fun v H' ⟨G', s', z⟩ => q _ G' H' s' z)⟩
theorem df_L {R : List D → List D → Prop} (T : TD K mg x st ps f fd) (S : FnScope N ps (defScope st)) (len : ∀ ds d, R ds d → ds.length = ps.length)
    (hb : ∀ (cdv : Value) (A : Around) (outer : List Env) (s : Shared) (H : Hp) (E : XK) (G : Hp) (vs : List V) (ds : List D) (d : List D), Room k (bd P w K mg base N x st f cdv A outer s H E).A → Ex G H → DpAll K G vs ds → R ds d →
      rdB (bd P w K mg base N x st f cdv A outer s H E) (defBody st) { nx := fun _ H' => False, rt := RetL K G H d } (start N vs) H) : DF P w K mg base x (k + 1) ps (SpL K R) := by
  refine ⟨f, fd, T.fn.ok S (fun vs H Q E h => ?_) (fun cdv A outer s H vs Q E hr h => ?_), T.g, T.fn.kp, T.b⟩
  · obtain ⟨G, ds, d, _, hd, r, _⟩ := h
    rw [dps_len hd]; exact len ds d r
  · obtain ⟨G, ds, d, gh, hd, r, q⟩ := h
    refine ⟨_, pbR _, rdB_mono (hb cdv A outer s H E G vs ds d hr gh hd r) (fun σ H' z => z.elim) (fun v H' ⟨p, ws, G', e, s', a, b, c, z⟩ => ?_)⟩
    subst e
    exact q p ws G' H' s' a b c z
theorem ret_d {X : Cx} {e : Expr} {σ : St} {G0 H0 G H : Hp} {d : D} {pos : Pos} {nx : St → Hp → Prop} (s : Stp M0 G0 H0 G H) (h : ED X M0 e σ G d) : rdS X (.Return (some e) pos) { nx := nx, rt := RetD X.K G0 H0 d } σ H :=
  s_ret (h G H (Ex.refl _) s.wd _ fun v G2 H2 s2 hv => ⟨G2, s.trans s2, hv⟩)
theorem ret_l {X : Cx} {e : Expr} {σ : St} {G0 H0 G H : Hp} {ds : List D} {pos : Pos} {nx : St → Hp → Prop} (s : Stp M0 G0 H0 G H) (h : EL X M0 e σ G (· = ds)) : rdS X (.Return (some e) pos) { nx := nx, rt := RetL X.K G0 H0 ds } σ H :=
  s_ret (h G H (Ex.refl _) s.wd _ fun p ws ds' G2 H2 s2 h1 h2 h3 hv e => ⟨p, ws, G2, rfl, s.trans s2, s.back h1, h2, h3, by rw [← e]; exact hv⟩)
end
end PL
namespace PL
open PySem L2
/-! data as keys -/
mutual
def kn : PyData → NestedKey
  | .int i => .num i
  | .str x => .text x
  | .tuple xs => .tup (kns xs)
  | _ => .none
def kns : List PyData → List NestedKey
  | [] => []
  | x :: xs => kn x :: kns xs
end
mutual
def keyOk : PyData → Bool
  | .int _ => true
  | .str _ => true
  | .tuple xs => keyOks xs
  | _ => false
def keyOks : List PyData → Bool
  | [] => true
  | x :: xs => keyOk x && keyOks xs
end
theorem kns_map : ∀ xs : List PyData, kns xs = xs.map kn
  | [] => rfl
  | x :: xs => by rw [kns, kns_map xs]; rfl
theorem keyOks_all : ∀ xs : List PyData, keyOks xs = xs.all keyOk
  | [] => rfl
  | x :: xs => by rw [keyOks, keyOks_all xs]; rfl
section
variable {X : Cx} {pins : List (Addr × Obj)} {σ : St} {H : Hp} {s : Shared}
mutual
theorem dp_nested (I : Inv X pins σ H s) : ∀ (d : PyData) (v : V) (u : Value), keyOk d = true → Dp X.K H v d → RelV v u → NestedIs s.heap (kn d) u
  | .int i, _, _, _, h, r => by
    cases h; obtain ⟨t, rfl⟩ := r
    exact .int i t
  | .str x, _, _, _, h, r => by
    cases h; obtain ⟨t, rfl⟩ := r
    exact .text x t
  | .tuple xs, _, _, k, h, r => by
    cases h with
    | tup hs ha =>
      cases r
      obtain ⟨its, rv, ⟨o, ho, hc, n, hd⟩, _⟩ := I.tuple hs
      exact .tup ho hc hd (dps_nested I xs _ its (by rw [keyOk] at k; exact k) ha rv)
  | .none, _, _, k, _, _ => by simp [keyOk] at k
  | .bool _, _, _, k, _, _ => by simp [keyOk] at k
  | .list _, _, _, k, _, _ => by simp [keyOk] at k
  | .dict _, _, _, k, _, _ => by simp [keyOk] at k
theorem dps_nested (I : Inv X pins σ H s) : ∀ (ds : List PyData) (vs : List V) (us : List Value), keyOks ds = true → DpAll X.K H vs ds → Vals vs us → NestedAll s.heap (kns ds) us
  | [], _, _, _, h, r => by cases h; cases r; exact .nil
  | d :: ds, _, _, k, h, r => by
    rw [keyOks, Bool.and_eq_true] at k
    cases h with
    | cons h1 h2 => cases r with
      | cons r1 r2 => exact .cons (dp_nested I d _ _ k.1 h1 r1) (dps_nested I ds _ _ k.2 h2 r2)
end
end
/-- a key: its data, where its tuple stands, what it has -/
structure NE where
  k : PyData
  a : Addr
  v : V
abbrev NK := NestedKey
/-- the dict's own object at d; the keys' tuples stand elsewhere -/
def ND0 (P : Program) (w : World) (d : Addr) (L : List NE) (h : Heap) : Prop :=
  (d == sysModules) = false ∧ ∃ (o : Obj) (es : Array DictEntry) (ep : Nat) (xs : List (NK × Addr × Value)), h.get? d = some o ∧ o.ExactDict ∧ o.data = .dict es ep ∧ es.toList = xs.map (entryOfKey (nestedKind P w)) ∧ (xs.map (·.1)).Nodup ∧
    Paired (fun (p : NE) (x : NK × Addr × Value) => x.1 = kn p.k ∧ x.2.1 = p.a ∧ RelV p.v x.2.2) L xs
def NDO (P : Program) (w : World) (d : Addr) (L : List NE) : HO := .ext fun h => ND0 P w d L h
theorem ndo_ok {P : Program} {w : World} {H : Hp} {h : Heap} {d : Addr} {L : List NE} (x : ND0 P w d L h) : ObjOk P w H h d (NDO P w d L) :=
  ⟨x, let ⟨_, o, _, _, _, e, _⟩ := x; ⟨o, e⟩, fun h1 h2 ⟨q, o, es, ep, xs, e, r⟩ k => ⟨q, o, es, ep, xs, k o e, r⟩⟩
/-- the keys are there -/
def KeysAt (K : PySem.W.Frag) (H : Hp) (L : List NE) : Prop := ∀ p ∈ L, Dp K H (.ref p.a) p.k ∧ keyOk p.k = true ∧ (kn p.k).depth ≤ 8
theorem KeysAt.up {K : PySem.W.Frag} {G H : Hp} {L : List NE} (x : Ex G H) (h : KeysAt K G L) : KeysAt K H L := fun p m => ⟨x.dp (h p m).1, (h p m).2⟩
def lookN (L : List NE) (k : NK) : Option NE := L.find? fun p => decide (kn p.k = k)
def putN (L : List NE) (k : PyData) (a : Addr) (v : V) : List NE := if (lookN L (kn k)).isSome then L.map (fun p => if kn p.k = kn k then { p with v := v } else p) else L ++ [⟨k, a, v⟩]
section
variable {X : Cx} {pins : List (Addr × Obj)} {σ : St} {H : Hp} {s : Shared} {d : Addr} {L : List NE}
abbrev PR : NE → NK × Addr × Value → Prop := fun p x => x.1 = kn p.k ∧ x.2.1 = p.a ∧ RelV p.v x.2.2
theorem paired_find : ∀ {L : List NE} {xs : List (NK × Addr × Value)} {k : NK}, Paired PR L xs → (lookN L k = none ∧ atKey xs k = none) ∨ ∃ p q, lookN L k = some p ∧ atKey xs k = some q ∧ q.1 = p.a ∧ RelV p.v q.2
  | _, _, k, .nil => .inl ⟨rfl, rfl⟩
  | p :: L, x :: xs, k, .cons ⟨h1, h2, h3⟩ t => by
    by_cases e : kn p.k = k
    · refine .inr ⟨p, x.2, ?_, ?_, h2, h3⟩
      · unfold lookN; rw [List.find?_cons_of_pos (by simpa using e)]
      · unfold atKey; rw [List.find?_cons_of_pos (by rw [h1]; simpa using e)]; rfl
    · have e1 : lookN (p :: L) k = lookN L k := by unfold lookN; rw [List.find?_cons_of_neg (by simpa using e)]
      have e2 : atKey (x :: xs) k = atKey xs k := by unfold atKey; rw [List.find?_cons_of_neg (by rw [h1]; simpa using e)]
      rw [e1, e2]
      exact paired_find t
theorem paired_put {L : List NE} {xs : List (NK × Addr × Value)} {k : PyData} {a : Addr} {v : V} {u : Value} (h : Paired PR L xs) (r : RelV v u) : Paired PR (putN L k a v) (storedH xs (kn k) a u) := by
  unfold putN storedH
  rcases paired_find (k := kn k) h with ⟨h1, h2⟩ | ⟨p, q, h1, h2, _⟩
  · rw [h1, h2]
    simp only [Option.isSome_none, Bool.false_eq_true, if_false]
    clear h1 h2
    induction h with
    | nil => exact .cons ⟨rfl, rfl, r⟩ .nil
    | cons a t ih => exact .cons a ih
  · rw [h1, h2]
    simp only [Option.isSome_some, if_true]
    clear h1 h2
    induction h with
    | nil => exact .nil
    | @cons p x _ _ a t ih =>
      refine .cons ?_ ih
      obtain ⟨a1, a2, a3⟩ := a
      show PR (if kn p.k = kn k then { p with v := v } else p) (putAt (kn k) u x)
      unfold putAt
      by_cases e : kn p.k = kn k
      · rw [if_pos e, if_pos (by rw [a1]; exact e)]; exact ⟨a1, a2, r⟩
      · rw [if_neg e, if_neg (by rw [a1]; exact e)]; exact ⟨a1, a2, a3⟩
theorem Inv.nd (I : Inv X pins σ H s) (h : H d = some (NDO X.prog X.w d L)) (hk : KeysAt X.K H L) : (d == sysModules) = false ∧ ∃ xs, s.heap.DictOfH (nestedKind X.prog X.w) d xs ∧ Paired PR L xs := by
  obtain ⟨⟨lo, o, es, ep, xs, ho, hc, hd, he, hn, hp⟩, _⟩ := I.hok d _ h
  refine ⟨lo, xs, ⟨o, es, ep, ho, hc, hd, he, fun x hx => ?_, hn⟩, hp⟩
  have key : ∀ {L : List NE} {xs : List (NK × Addr × Value)}, Paired PR L xs → KeysAt X.K H L → ∀ x ∈ xs, (nestedKind X.prog X.w).is s.heap x.1 x.2.1 := by
    intro L xs hp
    induction hp with
    | nil => intro _ x hx; cases hx
    | @cons p y _ _ a t ih =>
      intro hk x hx
      rcases List.mem_cons.mp hx with rfl | hx
      · obtain ⟨a1, a2, a3⟩ := a
        obtain ⟨k1, k2, k3⟩ := hk p List.mem_cons_self
        rw [a1, a2]
        exact ⟨dp_nested I p.k _ _ k2 k1 rfl, k3⟩
      · exact ih (fun q hq => hk q (List.mem_cons_of_mem _ hq)) x hx
  exact key hp hk x hx
/-- {} -/
def tNDNew (X : Cx) : TE := fun _ H Q => ∀ p, H p = none → Q (.ref p) (upd H p (NDO X.prog X.w p []))
theorem pe_ndnew {pos : Pos} : PE X (.Dict [] [] pos) (tNDNew X) := ⟨fun pins s σ H Q I h =>
  wpAny_Dict_empty ⟨.ref s.heap.objs.size, _, I.laid (a := s.heap.objs.size) (o := NDO X.prog X.w s.heap.objs.size []) (t' := s.toks) (fun _ _ q => Heap.get?_push_of_some _ q) (Nat.le_refl _)
    (ndo_ok ⟨beq_eq_false_iff_ne.mpr (Ne.symm (Nat.ne_of_lt I.big)), _, #[], 0, [], Heap.get?_push_size _ rfl, ⟨rfl, rfl, rfl⟩, rfl, rfl, List.nodup_nil, .nil⟩), rfl, h _ (I.hok.fresh (Nat.le_refl _))⟩⟩
/-- d[k] -/
def rNGet (X : Cx) : R2 := fun x y H Q => ∃ d L a k p, x = .ref d ∧ y = .ref a ∧ H d = some (NDO X.prog X.w d L) ∧ KeysAt X.K H L ∧ Dp X.K H (.ref a) k ∧ keyOk k = true ∧ (kn k).depth ≤ 8 ∧ lookN L (kn k) = some p ∧ Q p.v H
theorem ix_nd (hu : X.A.units + 64 < cLine) : IxR X (rNGet X) := by
  intro value slice pins s σ H x y v u Q I rx ry h hs
  obtain ⟨d, L, a, k, p, rfl, rfl, hd, hk, hy, ko, kd, hl, q⟩ := h
  obtain rfl : v = Value.ref d := rx
  obtain rfl : u = Value.ref a := ry
  obtain ⟨lo, xs, hx, hp⟩ := Inv.nd I hd hk
  rcases paired_find (k := kn k) hp with ⟨h1, _⟩ | ⟨p', z, h1, h2, _, h4⟩
  · rw [hl] at h1; cases h1
  · rw [hl] at h1; cases h1
    exact PyProof.Rows.subscriptTail_builtinR (x := z.2) hx.typeIs PySem.slot_dict_getitem.lookup
      (PySem.wpAny_getItem_heap (Q := fun r s' => r = z.2 ∧ EP X pins σ Q r s') (knd := nestedKind X.prog X.w) (show X.A.in1.units + 8 < cLine by show X.A.units + 1 + 8 < cLine; omega) (show NestedIs _ _ _ ∧ _ from ⟨dp_nested I k _ _ ko hy rfl, kd⟩) hx h2 ⟨rfl, p.v, H, I.tok _, h4, q⟩) hs
/-- d[k] = v -/
def rNSet (X : Cx) : V → V → V → Hp → (Hp → Prop) → Prop := fun o i v H Q => ∃ d L a k, o = .ref d ∧ i = .ref a ∧ H d = some (NDO X.prog X.w d L) ∧ KeysAt X.K H L ∧ Dp X.K H (.ref a) k ∧ keyOk k = true ∧ (kn k).depth ≤ 8 ∧ L.length ≤ sizeLine ∧ Q (upd H d (NDO X.prog X.w d (putN L k a v)))
theorem paired_len {α β : Type} {R : α → β → Prop} : ∀ {l : List α} {m : List β}, Paired R l m → l.length = m.length
  | _, _, .nil => rfl
  | _, _, .cons _ t => congrArg Nat.succ (paired_len t)
theorem set_nd (hu : X.A.units + 64 < cLine) : PSet X (rNSet X) := by
  intro pins s σ H o i v ov iv u Q I ro ri rv h
  obtain ⟨d, L, a, k, rfl, rfl, hd, hk, hy, ko, kd, hz, q⟩ := h
  obtain rfl : ov = Value.ref d := ro
  obtain rfl : iv = Value.ref a := ri
  obtain ⟨lo, xs, hx, hp⟩ := Inv.nd I hd hk
  refine PySem.wpAny_setItem_heap (knd := nestedKind X.prog X.w) (show X.A.in1.units + 8 < cLine by show X.A.units + 1 + 8 < cLine; omega) (show NestedIs _ _ _ ∧ _ from ⟨dp_nested I k _ _ ko hy rfl, kd⟩) hx (fun h' hm sb => ?_) (by rw [← paired_len hp]; exact hz)
  obtain ⟨o', es', ep', ho', hc', hd', he', _, hn'⟩ := hm
  exact ⟨_, I.write (e := d) (by rw [hd]; trivial) (.inl rfl) (fun b x hb e => (sb.2 b hb).trans e) ⟨o', ho'⟩ (ndo_ok ⟨lo, o', es', ep', _, ho', hc', hd', he', hn', paired_put hp rv⟩), q⟩
/-- list(d): the keys -/
def rNList (X : Cx) : List V → Hp → VK → Prop := fun xs H Q => ∃ d L, xs = [.ref d] ∧ H d = some (NDO X.prog X.w d L) ∧ KeysAt X.K H L ∧ L.length ≤ sizeLine ∧ ∀ l, H l = none → Q (.ref l) (upd H l (.lst (L.map fun p => V.ref p.a)))
theorem call_list_nd (hc : X.calm = true) : CallR X (.type "list") (rNList X) := by
  intro pins s σ H vs us Q I r h
  obtain ⟨d, L, rfl, hd, hk, hz, q⟩ := h
  rw [Vals.ref1 r]
  obtain ⟨lo, xs, ⟨o, es, ep, ho, he, hdat, hes, _, _⟩, hp⟩ := Inv.nd I hd hk
  have hsz : es.size = L.length := by rw [paired_len hp, PySem.size_of_entries hes]
  refine PySem.W.kdl_call (PySem.KdlSrc.rawDict (es := es) (ep := ep) lo) (I.ok.hd hc) ⟨o, ho, he, hdat⟩ (by rw [hsz]; exact hz) fun h' tk acc c kp hl hit => ?_
  have hv : Vals (L.map fun (p : NE) => V.ref p.a) acc.toList := by
    have hlen : acc.toList.length = L.length := by rw [Array.length_toList, hit.1, hsz]
    have hat : ∀ (i : Nat) (p : NE), L[i]? = some p → acc.toList[i]? = some (Value.ref p.a) := fun i p e => by
      have hi : i < acc.size := by
        have := (List.getElem?_eq_some_iff.mp e).1
        rw [Array.length_toList] at hlen; omega
      have h1 : acc[i]? = some acc[i] := by simp [hi]
      obtain ⟨hi2, ev⟩ := hit.2 i _ h1
      have key : ∀ {L : List NE} {xs : List (NK × Addr × Value)} {i : Nat} {p : NE}, Paired PR L xs → L[i]? = some p → ∃ x, xs[i]? = some x ∧ x.2.1 = p.a := by
        intro L xs i p hp
        induction hp generalizing i with
        | nil => intro e; simp at e
        | cons a t ih =>
          intro e
          cases i with
          | zero => simp at e; subst e; exact ⟨_, rfl, a.2.1⟩
          | succ i => exact ih (by simpa using e)
      obtain ⟨x, hx, xa⟩ := key hp e
      have h2 := PySem.entry_at hes i
      rw [hx] at h2
      have h3 : es[i]? = some es[i] := by simp [hi2]
      rw [h3] at h2
      have h4 := Option.some.inj h2
      rw [Array.getElem?_toList, h1, ev, h4]
      show some (Value.ref x.2.1) = some (Value.ref p.a)
      rw [xa]
    have build : ∀ (L : List NE) (us : List Value), us.length = L.length → (∀ (i : Nat) (p : NE), L[i]? = some p → us[i]? = some (Value.ref p.a)) → Vals (L.map fun (p : NE) => V.ref p.a) us := by
      intro L
      induction L with
      | nil => intro us e _; have : us = [] := List.eq_nil_of_length_eq_zero e; subst this; exact .nil
      | cons p L ih =>
        intro us e f
        cases us with
        | nil => simp at e
        | cons u us =>
          have h0 := f 0 p rfl
          simp at h0
          subst h0
          exact .cons rfl (ih us (by simpa using e) fun i p' h => by have := f (i + 1) p' (by simpa using h); simpa using this)
    exact build L _ hlen hat
  refine ⟨.ref s.heap.objs.size, _, I.laid (t' := tk) kp (Nat.le_refl _) (show ObjOk X.prog X.w _ h' _ (.lst _) from ⟨by rw [List.length_map]; exact hz, acc.toList, c, hv, by rw [Array.toArray_toList]; exact hl⟩), rfl, q _ (I.hok.fresh (Nat.le_refl _))⟩
end
end PL
namespace PL
open PySem L2
section
variable {X : Cx} {M : MS} {σ : St} {F G H : Hp} {D0 : Ends}
/-! x is None, x is True -/
def isD : PyData → PyData → Bool
  | .none, .none => true
  | .bool a, .bool b => a == b
  | _, _ => false
def rIsC (c : V) : R2 := fun x y H Q => y = c ∧ Q (.bl (decide (x = c))) H
theorem op_isC {b : Bool} : OpR X (compareOp .Is) (rIsC (.bl b)) := by
  intro pins s σ H x y v u Q I rx ry h
  obtain ⟨rfl, q⟩ := h
  cases (show u = Value.bool b from ry)
  by_cases e : x = .bl b
  · subst e
    cases (show v = Value.bool b from rx)
    exact wpAny_is_self rfl ⟨.bl true, H, I, rfl, by simpa using q⟩
  · refine wpAny_is_other ?_ ?_ ⟨.bl false, H, I, rfl, by simpa [e] using q⟩
    · cases x with
      | non => cases rx; rfl
      | bl _ => cases rx; rfl
      | int _ => obtain ⟨t, rfl⟩ := rx; rfl
      | str _ => obtain ⟨t, rfl⟩ := rx; rfl
      | byt _ => obtain ⟨t, rfl⟩ := rx; rfl
      | flt _ => obtain ⟨t, rfl⟩ := rx; rfl
      | ref _ => cases rx; rfl
      | ty _ => cases rx; rfl
    · rintro rfl
      exact e (RelV.inj rx rfl)
theorem rb_isB {K : PySem.W.Frag} {d : D} {b : Bool} : RB K (rIsC (.bl b)) d (.bool b) (isD d (.bool b)) := fun x y G H Q gh h1 h2 q => by
  cases h2
  refine ⟨rfl, ?_⟩
  cases h1 with
  | bl c => cases b <;> cases c <;> exact q
  | non => exact q
  | int i => exact q
  | str x => exact q
  | lst _ _ => exact q
  | tup _ _ => exact q
theorem e_isN {a : Expr} {pos p2 : Pos} {j} {d : D} (h : ED X M a σ G d) : ED X M (.Compare a [.Is] [.Constant .none j p2] pos) σ G (.bool (isD d .none)) := fun G1 H1 y w Q q =>
  toE (pe_cmp (pc_isN (peR a))) (h G1 H1 y w _ fun v G2 H2 s hv => by
    have z : decide (v = V.non) = isD d .none := by cases hv <;> rfl
    rw [z]; exact q _ G2 H2 s (.bl _))
theorem t_isN {a : Expr} {pos p2 : Pos} {j} {d : D} (h : ED X M a σ G d) : ET X M (.Compare a [.Is] [.Constant .none j p2] pos) σ G (· = isD d .none) := fun G1 H1 y w Q q =>
  toT (pt_cmp (pc_isN (peR a))) (h G1 H1 y w _ fun v G2 H2 s hv => by
    have z : decide (v = V.non) = isD d .none := by cases hv <;> rfl
    rw [z]; exact ⟨_, rfl, q _ G2 H2 s rfl⟩)
/-! isinstance -/
def tyN : PyData → String
  | .none => "NoneType"
  | .bool _ => "bool"
  | .int _ => "int"
  | .str _ => "str"
  | .list _ => "list"
  | .tuple _ => "tuple"
  | .dict _ => "dict"
theorem dp_ty {K : PySem.W.Frag} {v : V} {d : D} (h : Dp K G v d) : TyX K G v (.type (tyN d)) := by
  cases h with
  | non => exact .base .non
  | bl b => exact .base (.bl b)
  | int i => exact .base (.int i)
  | str x => exact .base (.str x)
  | lst h _ =>
    rcases h with (h | ⟨o, h⟩) | ⟨o, its, n, e, c, _⟩
    · exact .base (.lst h)
    · exact .base (.frz h)
    · exact .kList e c
  | tup h _ =>
    rcases h with (h | ⟨o, h⟩) | ⟨o, its, n, e, c, _⟩
    · exact .base (.tup h)
    · exact .fTuple h
    · exact .kTuple e c
def isiOf : PyData → String → Bool
  | .bool _, "int" => true
  | d, n => tyN d == n
/-- isinstance(x, T) -/
theorem e_isi {a : Expr} {T : String} {x : Str} {p tp pos : Pos} {d : D} {b : Bool} (hm : X.mg "isinstance" = none) (hx : X.mg x = none) (h : ED X M a σ G d) (hb : bootBuiltins x = some (.type T)) (hk : PySem.W.kitOne X.K (.type (tyN d)) (.type T) = some b)
    (hg : Gl X "isinstance" := by rfl) (hgx : Gl X x := by rfl) (hn : x ≠ "__name__" := by decide) (hdx : (x == ("__debug__" : Str)) = false := by decide) (na : starEach [a, .Name x tp] X.env = (false, eval a X.env) :: starEach [.Name x tp] X.env := by exact star_one rfl)
    (nb : starEach [.Name x tp] X.env = (false, eval (.Name x tp) X.env) :: starEach [] X.env := by exact star_one rfl) (hpl : (backTo pos (starEach [.Name x tp] X.env)).any (·.1) = false := by exact back_ok rfl) : ED X M (.Call (.Name "isinstance" p) [a, .Name x tp] [] pos) σ G (.bool b) := fun G1 H1 y w Q q =>
  toE (pe_callB call_isi hg hm (by decide +kernel) (pa_cons (peR a) (pa_cons (pe_bltn (v := .ty T) hgx hx hb rfl hn hdx) pa_nil nb) na) (by decide) (by decide) na hpl) (h G1 H1 y w _ fun v G2 H2 s hv =>
    ⟨v, .ty T, _, _, b, rfl, .ty T, dp_ty (s.wd.gh.dp hv), hk, q _ G2 H2 s (.bl b)⟩)
/-! tuples taken apart -/
theorem g_tup2 {K : PySem.W.Frag} {i j : Nat} {v : V} {d1 d2 : D} {Q : St → Hp → Prop} (h : Dp K G v (.tuple [d1, d2])) (x : Ex G H) (k : ∀ v1 v2, Dp K G v1 d1 → Dp K G v2 d2 → Q ((σ.set i (some v1)).set j (some v2)) H) : gTup K 2 (gCons (gName i) (gCons (gName j) gNil)) v σ H Q := by
  obtain ⟨a, xs, rfl, h1, h2⟩ := dp_tup h
  obtain ⟨v1, v2, rfl, e1, e2⟩ := dps2 h2
  exact ⟨a, _, rfl, x.sqt h1, rfl, v1, [v2], rfl, v2, [], rfl, rfl, k v1 v2 e1 e2⟩
theorem pg_2 {a b : Str} {ap bp pos : Pos} {k : Nat} (i j : Nat) (hc : X.calm = true) (hN : X.N.Nodup) (hi : X.N[i]? = some a := by rfl) (hj : X.N[j]? = some b := by rfl) (la : Loc X.env.scope a := by first | exact Or.inl rfl | exact Or.inr rfl) (lb : Loc X.env.scope b := by first | exact Or.inl rfl | exact Or.inr rfl)
    (fa : X.fn a = true ∨ X.env.scope.names.lookup a = some .local := by first | exact .inl rfl | exact .inr rfl) (fb : X.fn b = true ∨ X.env.scope.names.lookup b = some .local := by first | exact .inl rfl | exact .inr rfl)
    (hn : (assignEach [.Name a ap, .Name b bp] X.env).length = 2 := by rfl) (hst : (assignEach [.Name a ap, .Name b bp] X.env).findIdx? (·.1) = none := by rfl)
    (h1 : (assignEach [.Name a ap, .Name b bp] X.env).map (·.2) = assign (.Name a ap) X.env :: (assignEach [.Name b bp] X.env).map (·.2) := by rfl) (h2 : (assignEach [.Name b bp] X.env).map (·.2) = assign (.Name b bp) X.env :: (assignEach [] X.env).map (·.2) := by rfl) :
    PG X (.Tuple [.Name a ap, .Name b bp] k pos) (gTup X.K 2 (gCons (gName i) (gCons (gName j) gNil))) :=
  pg_tup hc (pgs_cons (pg_name hN hi la fa) (pgs_cons (pg_name hN hj lb fb) pgs_nil h2) h1) hn hst
/-- a, b = e -/
theorem s_unpack {e : Expr} {a b : Str} {ap bp tpos pos : Pos} {k : Nat} (i j : Nat) {d1 d2 : D} (w : Wd M G H) (he : ED X M e σ G (.tuple [d1, d2])) (hc : X.calm = true) (hN : X.N.Nodup)
    (kk : ∀ v1 v2 G1 H1, Stp M G H G1 H1 → Dp X.K G1 v1 d1 → Dp X.K G1 v2 d2 → D0.nx ((σ.set i (some v1)).set j (some v2)) H1)
    (hi : X.N[i]? = some a := by rfl) (hj : X.N[j]? = some b := by rfl) (la : Loc X.env.scope a := by first | exact Or.inl rfl | exact Or.inr rfl) (lb : Loc X.env.scope b := by first | exact Or.inl rfl | exact Or.inr rfl)
    (fa : X.fn a = true ∨ X.env.scope.names.lookup a = some .local := by first | exact .inl rfl | exact .inr rfl) (fb : X.fn b = true ∨ X.env.scope.names.lookup b = some .local := by first | exact .inl rfl | exact .inr rfl)
    (hn : (assignEach [.Name a ap, .Name b bp] X.env).length = 2 := by rfl) (hst : (assignEach [.Name a ap, .Name b bp] X.env).findIdx? (·.1) = none := by rfl)
    (h1 : (assignEach [.Name a ap, .Name b bp] X.env).map (·.2) = assign (.Name a ap) X.env :: (assignEach [.Name b bp] X.env).map (·.2) := by rfl) (h2 : (assignEach [.Name b bp] X.env).map (·.2) = assign (.Name b bp) X.env :: (assignEach [] X.env).map (·.2) := by rfl)
    (hs : swapsWithSole [.Tuple [.Name a ap, .Name b bp] k tpos] e pos.line X.env = pure false := by exact sw_noS rfl) (hw : swappedStores [.Tuple [.Name a ap, .Name b bp] k tpos] e X.env = pure none := by rfl)
    (h3 : (assignEach [.Tuple [.Name a ap, .Name b bp] k tpos] X.env).map (·.2) = [assign (.Tuple [.Name a ap, .Name b bp] k tpos) X.env] := by rfl) : rdS X (.Assign [.Tuple [.Name a ap, .Name b bp] k tpos] e pos) D0 σ H :=
  toS (ps_asg (peR e) (pg_2 i j hc hN hi hj la lb fa fb hn hst h1 h2) hs hw h3) (he G H (Ex.refl _) w _ fun v G1 H1 s hv => g_tup2 hv s.wd.gh fun v1 v2 e1 e2 => kk v1 v2 G1 H1 s e1 e2)
/-! for .. in reversed(a list) -/
theorem s_forV {tg a : Expr} {rp cp : Pos} {g : TG} {body : List Stmt} {pos : Pos} {ds0 : List D} (w : Wd M G H) (hsrc : ED X M a σ G (.list ds0)) (hc : X.calm = true) (mr : X.mg "reversed" = none) (hg : PG X tg g)
    (k : ∀ xs G1 H1, Stp M G H G1 H1 → DpAll X.K G1 xs ds0 → ∃ Pv : Nat → St → Hp → Prop, Pv 0 σ H1 ∧ (∀ i σ' H', Pv i σ' H' → Ex G1 H') ∧
      (∀ i d v σ' H', ds0.reverse[i]? = some d → Dp X.K G1 v d → Pv i σ' H' → g v σ' H' fun σ2 H2 => rdB X body { D0 with nx := Pv (i + 1), ct := Pv (i + 1), bk := D0.nx } σ2 H2) ∧ ∀ σ' H', Pv ds0.length σ' H' → D0.nx σ' H')
    (gr : Gl X "reversed" := by rfl) (na : starEach [a] X.env = (false, eval a X.env) :: starEach [] X.env := by exact star_one rfl) (h1 : starEach [a] X.env = [(false, eval a X.env)] := by exact star_last rfl)
    (hp : PassesOwn (model X.prog X.w) X.A X.env X.xe := by exact PassesOwn.never) (hs : ∀ x, foldedSetIterable (.Call (.Name "reversed" rp) [a] [] cp) X.env x = pure x := by intro _; rfl) : rdS X (.For tg (.Call (.Name "reversed" rp) [a] [] cp) body [] pos) D0 σ H :=
  toS (ps_for hp hc (pi_reversed gr mr (paR [a]) h1) hg (pbR body) hs) ((a_cons hsrc a_nil na) G H (Ex.refl _) w _ fun vs ds G1 H1 s hvs e => by
    subst e
    obtain ⟨v, rfl, hv⟩ := dps1 hvs
    obtain ⟨a', xs, rfl, h1, h2⟩ := dp_lst hv
    obtain ⟨Pv, p0, pe, pt, pd⟩ := k xs G1 H1 s h2
    have hlen := dps_len h2
    refine ⟨a', xs, rfl, s.wd.gh.sql h1, RT.for_Itv (xs := xs) Pv p0 (fun i σ' H' p => (pe i σ' H' p).sql h1) (fun i x σ' H' hi hx p => ?_) (fun σ' H' p => pd σ' H' (by rw [← hlen]; exact p))⟩
    obtain ⟨d, hd, hxd⟩ := dps_getV h2 hx
    refine pt i d x σ' H' ?_ hxd p
    rw [List.getElem?_reverse (by omega), ← hlen]; exact hd)
/-! l[i] = v, o[k] = v -/
theorem s_sub {o i e : Expr} {spos pos : Pos} {t : TSet} (hset : PSet X t) (h : rdE X e σ H fun v H1 => rdE X o σ H1 fun ov H2 => rdE X i σ H2 fun iv H3 => t ov iv v H3 fun H4 => D0.nx σ H4)
    (ha : ∀ v, assign (.Subscript o i spos) X.env v = (do
      let ov ← holding [v] (eval o X.env)
      let iv ← holding [v, ov] (eval i X.env)
      standAt spos
      holding [v, ov, iv] (setItem ov iv v)
      release [v, ov, iv] []) := by intro _; rfl)
    (hs : swapsWithSole [.Subscript o i spos] e pos.line X.env = pure false := by exact sw_noS rfl) (hw : swappedStores [.Subscript o i spos] e X.env = pure none := by rfl)
    (h1 : (assignEach [.Subscript o i spos] X.env).map (·.2) = [assign (.Subscript o i spos) X.env] := by rfl) : rdS X (.Assign [.Subscript o i spos] e pos) D0 σ H :=
  toS (ps_asg (peR e) (pg_sub (peR o) (peR i) hset ha) hs hw h1) h
/-! sorted of data -/
theorem eachIs_of {K : PySem.W.Frag} {s : Shared} {R : V → Value → Prop} : ∀ {vs : List V} {us : List Value} {ds : List D}, Vals vs us → DpAll K G vs ds → PySem.W.EachIs (fun (u : Value) (b : V × D) => RelV b.1 u) us (vs.zip ds)
  | _, _, _, .nil, .nil => .nil
  | _, _, _, .cons r t, .cons h k => .cons r (eachIs_of (s := s) (R := R) t k)
theorem vals_of_each : ∀ {us : List Value} {bs : List (V × D)}, PySem.W.EachIs (fun (u : Value) (b : V × D) => RelV b.1 u) us bs → Vals (bs.map (·.1)) us
  | _, _, .nil => .nil
  | _, _, .cons r t => .cons r (vals_of_each t)
theorem zip_snd : ∀ {vs : List V} {ds : List D}, vs.length = ds.length → (vs.zip ds).map (·.2) = ds
  | [], [], _ => rfl
  | v :: vs, d :: ds, h => by simp [zip_snd (vs := vs) (ds := ds) (by simpa using h)]
  | [], _ :: _, h => by simp at h
  | _ :: _, [], h => by simp at h
theorem dps_mem {K : PySem.W.Frag} : ∀ {vs : List V} {ds : List D}, DpAll K G vs ds → ∀ b ∈ vs.zip ds, Dp K G b.1 b.2
  | _, _, .nil, _, h => by simp at h
  | _, _, .cons h t, b, hb => by
    rw [List.zip_cons_cons] at hb
    rcases List.mem_cons.mp hb with rfl | hb
    · exact h
    · exact dps_mem t b hb
theorem dps_of_mem {K : PySem.W.Frag} : ∀ (bs : List (V × D)), (∀ b ∈ bs, Dp K G b.1 b.2) → DpAll K G (bs.map (·.1)) (bs.map (·.2))
  | [], _ => .nil
  | b :: bs, h => .cons (h b List.mem_cons_self) (dps_of_mem bs fun c hc => h c (List.mem_cons_of_mem _ hc))
def rSortD (K : PySem.W.Frag) : List V → Hp → VK → Prop := fun xs H Q => ∃ a vs ds, xs = [.ref a] ∧ SqL K H a vs ∧ DpAll K H vs ds ∧ PySem.W.AllAlike ds ∧ PySem.W.Sortable ds ∧ (∀ d ∈ ds, d.depth ≤ 32) ∧ ∀ p, H p = none → Q (.ref p) (upd H p (.lst (((vs.zip ds).mergeSort (PySem.W.dataLe false (·.2))).map (·.1))))
theorem cr_sortedD (hu : X.A.units + 64 < cLine) : CallR X (.builtin "sorted") (rSortD X.K) := by
  intro pins s σ H vs us Q I r h
  obtain ⟨a, xs, ds, rfl, hs, hd, hal, hk, hdep, q⟩ := h
  rw [Vals.ref1 r]
  obtain ⟨its, rv, hl, hz⟩ := I.list hs
  have hlen := dps_len hd
  have e2 : (xs.zip ds).map (·.2) = ds := zip_snd hlen
  have hzl : (xs.zip ds).length = xs.length := by rw [List.length_zip, hlen, Nat.min_self]
  refine PySem.W.sorted_data (R := fun (u : Value) (b : V × D) => RelV b.1 u) (enc := fun b : V × D => b.2) (bs := xs.zip ds) hl.isList (eachIs_of (s := s) (R := fun _ _ => True) rv hd) ?_ (by rw [e2]; exact hal) (by rw [e2]; exact hk) (by rw [hzl]; exact hz) (fun b hb => ?_) fun out ho hout => ?_
  · have rd : ∀ {vs : List V} {us : List Value} {ds : List D}, Vals vs us → DpAll X.K H vs ds → PySem.W.EachIs (fun (v : Value) (b : V × D) => ∃ as, Reads s.heap v b.2 as) us (vs.zip ds) := by
      intro vs
      induction vs with
      | nil => intro us ds r hd; cases r; cases hd; exact .nil
      | cons v vs ih => intro us ds r hd; cases r with
        | cons r1 r2 => cases hd with
          | cons h t => exact .cons (Dp.reads I _ _ _ h r1) (ih r2 t)
    exact rd rv hd
  · have : b.2 ∈ ds := by rw [← e2]; exact List.mem_map.mpr ⟨b, hb, rfl⟩
    have := hdep _ this
    omega
  · obtain ⟨ep, he⟩ := PyProof.Rows.sortedAll_at s.heap its (List.toArray out)
    have hv := vals_of_each hout
    exact ⟨.ref _, _, I.laid (t' := s.toks) (fun _ _ => PyProof.Rows.sortedAll_old) (Nat.le_succ _) (show ObjOk X.prog X.w _ _ _ (.lst _) from ⟨by rw [List.length_map, (List.mergeSort_perm _ _).length_eq, hzl]; exact hz, out, ep, hv, he⟩), rfl, q _ (I.hok.fresh (Nat.le_succ _))⟩
theorem map_sort {α β : Type} {r : α → α → Bool} {s : β → β → Bool} {f : α → β} (h : ∀ a b, r a b = s (f a) (f b)) (l : List α) : (l.mergeSort r).map f = (l.map f).mergeSort s := List.map_mergeSort (fun a _ b _ => h a b)
theorem l_sortedD {a : Expr} {p pos : Pos} {ds : List D} (hm : X.mg "sorted" = none) (hu : X.A.units + 64 < cLine) (h : ED X M a σ G (.list ds)) (hal : PySem.W.AllAlike ds) (hk : PySem.W.Sortable ds) (hdep : ∀ d ∈ ds, d.depth ≤ 32) (hg : Gl X "sorted" := by rfl) (na : starEach [a] X.env = (false, eval a X.env) :: starEach [] X.env := by exact star_one rfl) :
    EL X M (.Call (.Name "sorted" p) [a] [] pos) σ G (· = ds.mergeSort (PySem.W.dataLe false id)) := fun G1 H1 y w Q q =>
  toE (pe_callB (cr_sortedD hu) hg hm (by decide +kernel) (paR [a]) (by decide) (by decide) na) ((a_cons h a_nil na) G1 H1 y w _ fun vs ds' G2 H2 s hvs e => by
    subst e
    obtain ⟨v, rfl, hd⟩ := dps1 hvs
    obtain ⟨p', xs, rfl, h1, h2⟩ := dp_lst hd
    refine ⟨p', xs, ds, rfl, s.wd.gh.sql h1, s.wd.gh.dps h2, hal, hk, hdep, fun l hl => ?_⟩
    have hp : ∀ b ∈ (xs.zip ds).mergeSort (PySem.W.dataLe false (·.2)), Dp X.K G2 b.1 b.2 := fun b hb => dps_mem h2 b ((List.mergeSort_perm _ _).mem_iff.mp hb)
    have hd2 := dps_of_mem _ hp
    have e2 : ((xs.zip ds).mergeSort (PySem.W.dataLe false (·.2))).map (·.2) = ds.mergeSort (PySem.W.dataLe false id) := by
      rw [map_sort (r := PySem.W.dataLe false fun x : V × D => x.2) (s := PySem.W.dataLe false id) (fun a b => rfl), zip_snd (dps_len h2)]
    rw [e2] at hd2
    exact q l _ _ G2 _ (s.trans (.laidN s.wd hl)) (s.back hl) (s.wd.gh.back hl) upd_same hd2 rfl)
end
/-! dicts over data -/
def lk {κ : Type} [DecidableEq κ] : List (κ × D) → κ → Option D
  | [], _ => none
  | p :: m, k => if p.1 = k then some p.2 else lk m k
def putD {κ : Type} [DecidableEq κ] (m : List (κ × D)) (k : κ) (e : D) : List (κ × D) := if (lk m k).isSome then m.map (fun p => if p.1 = k then (p.1, e) else p) else m ++ [(k, e)]
section
variable {κ : Type} [DecidableEq κ]
theorem lk_cons (p : κ × D) (m : List (κ × D)) (k : κ) : lk (p :: m) k = if p.1 = k then some p.2 else lk m k := rfl
theorem lk_map_ne (m : List (κ × D)) {k k' : κ} (e : D) (h : ¬ k' = k) : lk (m.map fun p => if p.1 = k then (p.1, e) else p) k' = lk m k' := by
  induction m with
  | nil => rfl
  | cons p m ih =>
    rw [List.map_cons, lk_cons, lk_cons, ih]
    by_cases hp : p.1 = k
    · have n1 : ¬ p.1 = k' := fun z => h (z.symm.trans hp)
      rw [if_pos hp, if_neg n1, if_neg n1]
    · rw [if_neg hp]
theorem lk_map_eq (m : List (κ × D)) {k : κ} (e : D) (h : (lk m k).isSome) : lk (m.map fun p => if p.1 = k then (p.1, e) else p) k = some e := by
  induction m with
  | nil => simp [lk] at h
  | cons p m ih =>
    rw [lk_cons] at h
    rw [List.map_cons, lk_cons]
    by_cases hp : p.1 = k
    · simp [hp]
    · rw [if_neg hp] at h
      simp [hp, ih h]
theorem lk_app (m : List (κ × D)) (k : κ) (e : D) (k' : κ) (h : lk m k = none) : lk (m ++ [(k, e)]) k' = if k' = k then some e else lk m k' := by
  induction m with
  | nil =>
    show (if k = k' then some e else none) = if k' = k then some e else none
    by_cases z : k = k'
    · rw [if_pos z, if_pos z.symm]
    · rw [if_neg z, if_neg fun y => z y.symm]
  | cons p m ih =>
    rw [lk_cons] at h
    by_cases hp : p.1 = k
    · rw [if_pos hp] at h; cases h
    · rw [if_neg hp] at h
      rw [List.cons_append, lk_cons, lk_cons, ih h]
      by_cases z : k' = k
      · subst z; rw [if_neg hp, if_pos rfl, if_pos rfl]
      · rw [if_neg z, if_neg z]
theorem lookup_put (m : List (κ × D)) (k : κ) (e : D) (k' : κ) : lk (putD m k e) k' = if k' = k then some e else lk m k' := by
  unfold putD
  by_cases h : (lk m k).isSome
  · rw [if_pos h]
    by_cases z : k' = k
    · subst z; rw [if_pos rfl, lk_map_eq m e h]
    · rw [if_neg z, lk_map_ne m e z]
  · rw [if_neg h]
    refine lk_app m k e k' ?_
    cases z : lk m k with
    | none => rfl
    | some _ => rw [z] at h; exact absurd rfl h
theorem put_len (m : List (κ × D)) (k : κ) (e : D) : (putD m k e).length ≤ m.length + 1 := by
  unfold putD
  split
  · rw [List.length_map]; omega
  · rw [List.length_append]; exact Nat.le_refl _
theorem lk_mem (m : List (κ × D)) (k : κ) : k ∈ m.map (·.1) ↔ (lk m k).isSome := by
  induction m with
  | nil => simp [lk]
  | cons p m ih =>
    rw [List.map_cons, List.mem_cons, lk_cons]
    by_cases h : p.1 = k
    · simp [h]
    · rw [if_neg h, ← ih]
      exact ⟨fun z => z.resolve_left fun y => h y.symm, .inr⟩
theorem put_keys (m : List (κ × D)) (k : κ) (e : D) (k' : κ) : k' ∈ (putD m k e).map (·.1) ↔ k' = k ∨ k' ∈ m.map (·.1) := by
  rw [lk_mem, lookup_put, lk_mem]
  by_cases h : k' = k
  · simp [h]
  · simp [h]
theorem put_nodup {m : List (κ × D)} (h : (m.map (·.1)).Nodup) (k : κ) (e : D) : ((putD m k e).map (·.1)).Nodup := by
  unfold putD
  split
  · rw [List.map_map]
    have : (m.map ((·.1) ∘ fun p => if p.1 = k then (p.1, e) else p)) = m.map (·.1) := List.map_congr_left fun p _ => by
      show (if p.1 = k then (p.1, e) else p).1 = p.1
      split <;> rfl
    rw [this]; exact h
  · rename_i hn
    rw [List.map_append]
    refine List.nodup_append.mpr ⟨h, by simp, fun a ha b hb => ?_⟩
    simp at hb
    subst hb
    rintro rfl
    exact hn ((lk_mem m _).mp ha)
/-- what keys are written as -/
structure EncOk (enc : κ → D) : Prop where
  ok : ∀ k, keyOk (enc k) = true
  dep : ∀ k, (kn (enc k)).depth ≤ 8
  inj : ∀ a b, kn (enc a) = kn (enc b) → a = b
/-- the entries L stand for m: keys and values are known in G -/
abbrev EM (K : PySem.W.Frag) (enc : κ → D) (G : Hp) (L : List NE) (m : List (κ × D)) : Prop := Paired (fun (p : NE) (e : κ × D) => p.k = enc e.1 ∧ Dp K G (.ref p.a) p.k ∧ Dp K G p.v e.2) L m
theorem EM.up {K : PySem.W.Frag} {enc : κ → D} {F G : Hp} {L : List NE} {m : List (κ × D)} (h : EM K enc F L m) (x : Ex F G) : EM K enc G L m := by
  induction h with
  | nil => exact .nil
  | cons a t ih => exact .cons ⟨a.1, x.dp a.2.1, x.dp a.2.2⟩ ih
theorem EM.keys {K : PySem.W.Frag} {enc : κ → D} (ok : EncOk enc) {G : Hp} {L : List NE} {m : List (κ × D)} (h : EM K enc G L m) : KeysAt K G L := by
  induction h with
  | nil => intro p hp; cases hp
  | cons a t ih =>
    intro p hp
    rcases List.mem_cons.mp hp with rfl | hp
    · exact ⟨a.2.1, by rw [a.1]; exact ok.ok _, by rw [a.1]; exact ok.dep _⟩
    · exact ih p hp
theorem EM.look {K : PySem.W.Frag} {enc : κ → D} (ok : EncOk enc) {G : Hp} {L : List NE} {m : List (κ × D)} (h : EM K enc G L m) (k : κ) : (lookN L (kn (enc k)) = none ∧ lk m k = none) ∨ ∃ p e, lookN L (kn (enc k)) = some p ∧ lk m k = some e ∧ Dp K G p.v e := by
  induction h with
  | nil => exact .inl ⟨rfl, rfl⟩
  | @cons p e L m a t ih =>
    by_cases hk : k = e.1
    · refine .inr ⟨p, e.2, ?_, ?_, a.2.2⟩
      · unfold lookN; rw [List.find?_cons_of_pos (by rw [a.1, hk]; simp)]
      · rw [lk_cons, if_pos hk.symm]
    · have e1 : lookN (p :: L) (kn (enc k)) = lookN L (kn (enc k)) := by
        unfold lookN
        rw [List.find?_cons_of_neg]
        simp only [decide_eq_true_eq]
        intro z
        rw [a.1] at z
        exact hk (ok.inj _ _ z).symm
      have e2 : lk (e :: m) k = lk m k := by rw [lk_cons, if_neg fun z => hk z.symm]
      rw [e1, e2]
      exact ih
theorem EM.put {K : PySem.W.Frag} {enc : κ → D} (ok : EncOk enc) {G : Hp} {L : List NE} {m : List (κ × D)} (h : EM K enc G L m) {k : κ} {a : Addr} {v : V} {e : D} (ha : Dp K G (.ref a) (enc k)) (hv : Dp K G v e) : EM K enc G (putN L (enc k) a v) (putD m k e) := by
  unfold putN putD
  rcases h.look ok k with ⟨h1, h2⟩ | ⟨p, e', h1, h2, _⟩
  · rw [h1, h2]
    simp only [Option.isSome_none, Bool.false_eq_true, if_false]
    clear h1 h2
    induction h with
    | nil => exact .cons ⟨rfl, ha, hv⟩ .nil
    | cons a t ih => exact .cons a ih
  · rw [h1, h2]
    simp only [Option.isSome_some, if_true]
    clear h1 h2
    induction h with
    | nil => exact .nil
    | @cons p q _ _ a t ih =>
      refine .cons ?_ ih
      obtain ⟨a1, a2, a3⟩ := a
      show (if kn p.k = kn (enc k) then ({ k := p.k, a := p.a, v := v } : NE) else p).k = enc (if q.1 = k then (q.1, e) else q).1 ∧ Dp K G (.ref (if kn p.k = kn (enc k) then ({ k := p.k, a := p.a, v := v } : NE) else p).a) (if kn p.k = kn (enc k) then ({ k := p.k, a := p.a, v := v } : NE) else p).k ∧ Dp K G (if kn p.k = kn (enc k) then ({ k := p.k, a := p.a, v := v } : NE) else p).v (if q.1 = k then (q.1, e) else q).2
      by_cases z : q.1 = k
      · have z1 : kn p.k = kn (enc k) := by rw [a1, z]
        rw [if_pos z, if_pos z1]
        exact ⟨a1, a2, hv⟩
      · have z' : ¬ kn p.k = kn (enc k) := by rw [a1]; exact fun y => z (ok.inj _ _ y)
        rw [if_neg z, if_neg z']
        exact ⟨a1, a2, a3⟩
theorem EM.len {K : PySem.W.Frag} {enc : κ → D} {G : Hp} {L : List NE} {m : List (κ × D)} (h : EM K enc G L m) : L.length = m.length := paired_len h
theorem EM.list {K : PySem.W.Frag} {enc : κ → D} {G : Hp} {L : List NE} {m : List (κ × D)} (h : EM K enc G L m) : DpAll K G (L.map fun (p : NE) => V.ref p.a) (m.map fun e => enc e.1) := by
  induction h with
  | nil => exact .nil
  | @cons p q _ _ a t ih => exact .cons (show Dp K G (.ref p.a) (enc q.1) by rw [← a.1]; exact a.2.1) ih
/-- a dict that is known -/
def DK (X : Cx) (enc : κ → D) (G : Hp) (d : Addr) (m : List (κ × D)) : Prop := ∃ L, G d = some (NDO X.prog X.w d L) ∧ EM X.K enc G L m
/-- a dict that is written -/
def DU (X : Cx) (enc : κ → D) (G H : Hp) (d : Addr) (m : List (κ × D)) : Prop := ∃ L, H d = some (NDO X.prog X.w d L) ∧ EM X.K enc G L m
section
variable {X : Cx} {M : MS} {σ : St} {F G H : Hp} {D0 : Ends} {enc : κ → D} {d : Addr} {m : List (κ × D)}
theorem DK.up (h : DK X enc F d m) (x : Ex F G) : DK X enc G d m := let ⟨L, a, b⟩ := h; ⟨L, x _ _ a, b.up x⟩
theorem DU.up {G' : Hp} (h : DU X enc G H d m) (x : Ex G G') : DU X enc G' H d m := let ⟨L, a, b⟩ := h; ⟨L, a, b.up x⟩
theorem DU.step {G' H' : Hp} (h : DU X enc G H d m) (s : Stp M G H G' H') (nm : ¬ M.m d) : DU X enc G' H' d m := let ⟨L, a, b⟩ := h; ⟨L, s.hh _ _ nm a, b.up s.gg⟩
/-- {} -/
theorem r_dnew {pos : Pos} {Q : VK} (w : Wd M G H) (q : ∀ p H1, Stp M G H G H1 → H p = none → DU X enc G H1 p [] → Q (.ref p) H1) : rdE X (.Dict [] [] pos) σ H Q :=
  toE pe_ndnew fun p hp => q p _ (.laidN w hp) hp ⟨[], upd_same, .nil⟩
/-- d[k], d known -/
theorem e_dget {o i : Expr} {pos : Pos} {k : κ} {e : D} (ok : EncOk enc) (hu : X.A.units + 64 < cLine) (hd : DK X enc G d m) (ho : ∀ H1 (Q : VK), Q (.ref d) H1 → rdE X o σ H1 Q) (hi : ED X M i σ G (enc k)) (hk : ∀ k, ∃ xs, enc k = .tuple xs) (he : lk m k = some e)
    (hs : PlainIx i := by exact fun _ _ => rfl) : ED X M (.Subscript o i pos) σ G e := fun G1 H1 x w Q q =>
  toE (pe_ix (ix_nd hu) (peR o) (peR i) hs) (ho _ _ (hi G1 H1 x w _ fun v G2 H2 s hv => by
    obtain ⟨L, hL, em⟩ := (hd.up x).up s.gg
    rcases em.look ok k with ⟨_, h2⟩ | ⟨p, e', h1, h2, h3⟩
    · rw [he] at h2; cases h2
    · rw [he] at h2; cases h2
      obtain ⟨xs, ex⟩ := hk k
      obtain ⟨a, ys, rfl, _, _⟩ := dp_tup (by rw [← ex]; exact hv)
      exact ⟨d, L, a, enc k, p, rfl, rfl, s.wd.gh _ _ hL, (em.keys ok).up s.wd.gh, s.wd.gh.dp hv, ok.ok k, ok.dep k, h1, q _ G2 H2 s h3⟩))
/-- d[k] = v, by values -/
theorem DU.set {Q : Hp → Prop} {v iv : V} {k : κ} {e : D} (ok : EncOk enc) (h : DU X enc G H d m) (gh : Ex G H) (hk : ∀ k, ∃ xs, enc k = .tuple xs) (hi : Dp X.K G iv (enc k)) (hv : Dp X.K G v e) (hl : m.length < 100000)
    (q : ∀ L', DU X enc G (upd H d (NDO X.prog X.w d L')) d (putD m k e) → Q (upd H d (NDO X.prog X.w d L'))) : rNSet X (.ref d) iv v H Q := by
  obtain ⟨L, hL, em⟩ := h
  obtain ⟨xs, ex⟩ := hk k
  obtain ⟨a, ys, rfl, _, _⟩ := dp_tup (by rw [← ex]; exact hi)
  exact ⟨d, L, a, enc k, rfl, rfl, hL, (em.keys ok).up gh, gh.dp hi, ok.ok k, ok.dep k, by rw [em.len]; exact sz (Nat.le_of_lt hl), q _ ⟨_, upd_same, em.put ok hi hv⟩⟩
/-- list(d) -/
theorem l_dlist {o : Expr} {p pos : Pos} (ok : EncOk enc) (hc : X.calm = true) (hm : X.mg "list" = none) (hd : DK X enc G d m) (ho : ∀ H1 (Q : VK), Q (.ref d) H1 → rdE X o σ H1 Q) (hl : m.length < 100000) (hg : Gl X "list" := by rfl) (na : starEach [o] X.env = (false, eval o X.env) :: starEach [] X.env := by exact star_one rfl) :
    EL X M (.Call (.Name "list" p) [o] [] pos) σ G (· = m.map fun e => enc e.1) := fun G1 H1 x w Q q =>
  toE (pe_callTy (call_list_nd hc) hg hm (by decide +kernel) (pa_cons (peR o) pa_nil na) (by decide) (by decide) na) (ho _ _ (by
    obtain ⟨L, hL, em⟩ := hd.up x
    exact ⟨d, L, rfl, w.gh _ _ hL, (em.keys ok).up w.gh, by rw [em.len]; exact sz (Nat.le_of_lt hl), fun l hl => q l _ _ G1 _ (.laidN w hl) hl (w.gh.back hl) upd_same em.list rfl⟩))
end
end
end PL
namespace PL
open PySem L2
/-! the pool: a list of five, its first the cells -/
def poolV (c : Addr) (a b t s : Int) : HO := .lst [.ref c, .int a, .int b, .int t, .int s]
structure PoolAt (H : Hp) (p c : Addr) (cells : List Int) (a : Nat) (b t s : Int) : Prop where
  hp : H p = some (poolV c a b t s)
  hc : H c = some (.lst (cells.map .int))
theorem PoolAt.ne {H : Hp} {p c : Addr} {cells : List Int} {a : Nat} {b t s : Int} (h : PoolAt H p c cells a b t s) : p ≠ c := by
  intro e
  have h1 := h.hp
  rw [e, h.hc] at h1
  cases cells with
  | nil => cases h1
  | cons x xs => injection h1 with h1; unfold poolV at h1; injection h1 with h1; injection h1 with h1; cases h1
def poolOk (p c : Addr) (H : Hp) : Prop := ∃ cells a b t s, PoolAt H p c cells a b t s
/-- what a draw may turn -/
def MP (p c : Addr) : MS where
  m := fun x => x = p
  ft := fun x => x = p ∨ x = c
  S := poolOk p c
  sub := fun _ h => .inl h
  cl := fun H H' h ⟨cells, a, b, t, s, x⟩ => ⟨cells, a, b, t, s, h _ _ (.inl rfl) x.hp, h _ _ (.inr rfl) x.hc⟩
  live := fun H x ⟨cells, a, b, t, s, q⟩ h => by
    rcases h with rfl | rfl
    · rw [q.hp]; exact fun z => by cases z
    · rw [q.hc]; exact fun z => by cases z
/-- a promise of what draws: pool first -/
def SpP (K : PySem.W.Frag) (R : List D → D → Prop) (Pre : List D → Prop) : Sp := fun vs H Q _ => ∃ p c G ws ds, vs = .ref p :: ws ∧ Wd (MP p c) G H ∧ DpAll K G ws ds ∧ Pre ds ∧ ∀ v d G' H', Stp (MP p c) G H G' H' → Dp K G' v d → R ds d → Q v H'
section
variable {X : Cx} {σ : St} {G : Hp} {x : Str} {p0 pos : Pos} {e : Expr} {es : List Expr} {k : Nat} {ps : List Str} {p c : Addr}
/-- f(pool, ..) -/
theorem e_callP {R : List D → D → Prop} {Pre : List D → Prop} {P : List D → Prop} {T : D → Prop} (F : DF X.prog X.w X.K X.mg X.base x k ps (SpP X.K R Pre)) (hr : Room k X.A) (ho : ∀ H1 (Q : VK), Q (.ref p) H1 → rdE X e σ H1 Q) (ha : EA X (MP p c) es σ G P) (h : ∀ ds, P ds → Pre ds ∧ ∀ d, R ds d → T d) (hg : Gl X x := by rfl) (hdb : (x == ("__debug__" : Str)) = false := by decide)
    (he : starEach (e :: es) X.env = (false, eval e X.env) :: starEach es X.env := by exact star_one rfl) (hpl : (backTo pos (starEach es X.env)).any (·.1) = false := by exact back_ok rfl) : EP' X (MP p c) (.Call (.Name x p0) (e :: es) [] pos) σ G T := fun G1 H1 y w Q q => by
  obtain ⟨f, fd, ok, gm, kp, b⟩ := F.ex
  refine toE (pe_call ok hr hg gm kp b .nil pass0 (pa_cons (peR e) (paR es) he) hdb he hpl) (ho _ _ (ha G1 H1 y w _ fun vs ds G2 H2 s hvs pd => ?_))
  exact ⟨p, c, G2, vs, ds, by rw [List.append_nil], s.wd, hvs, (h ds pd).1, fun v d G3 H3 s3 hv r => q v d G3 H3 (s.trans s3) hv ((h ds pd).2 d r)⟩
end
/-- the pool as a list that is known for the while -/
theorem PoolAt.known {K : PySem.W.Frag} {H : Hp} {p c : Addr} {cells : List Int} {a : Nat} {b t s : Int} (h : PoolAt H p c cells a b t s) : ∃ G, Ex G H ∧ Dp K G (.ref p) (.list [.list (cells.map .int), .int a, .int b, .int t, .int s]) := by
  refine ⟨H, Ex.refl H, .lst (.inl (.inl h.hp)) (.cons (.lst (.inl (.inl h.hc)) (dps_of_ints _)) (.cons (.int _) (.cons (.int _) (.cons (.int _) (.cons (.int _) .nil)))))⟩
/-- what stands still while the pool is turned -/
def But (p : Addr) (H H' : Hp) : Prop := ∀ x o, x ≠ p → H x = some o → H' x = some o
theorem But.trans {p : Addr} {H H1 H2 : Hp} (h : But p H H1) (k : But p H1 H2) : But p H H2 := fun x o n e => k x o n (h x o n e)
theorem But.of {p : Addr} {H H' : Hp} (h : Ex H H') : But p H H' := fun x o _ e => h x o e
theorem But.upd {p : Addr} {H : Hp} {o : HO} : But p H (upd H p o) := fun x u n e => by rw [upd_ne n]; exact e
theorem PoolAt.turn {H : Hp} {p c : Addr} {cells : List Int} {a : Nat} {b t s : Int} (h : PoolAt H p c cells a b t s) (a' : Nat) (b' t' s' : Int) : PoolAt (upd H p (poolV c a' b' t' s')) p c cells a' b' t' s' :=
  ⟨upd_same, by rw [upd_ne (Ne.symm h.ne)]; exact h.hc⟩
theorem PoolAt.ex {H H' : Hp} {p c : Addr} {cells : List Int} {a : Nat} {b t s : Int} (h : PoolAt H p c cells a b t s) (x : Ex H H') : PoolAt H' p c cells a b t s := ⟨x _ _ h.hp, x _ _ h.hc⟩
def R_draw : List D → D → Prop := fun ds d => ∃ many k : Int, ds = [.int many] ∧ d = .int k ∧ 0 ≤ k ∧ k < many
def P_draw : List D → Prop := fun ds => ∃ many : Int, ds = [.int many] ∧ 0 < many ∧ many < 18446744073709551616
section
variable {X : Cx} {σ : St} {p c : Addr} {cells : List Int} {a : Nat} {b t s : Int} {H : Hp}
/-- pool[i] = e -/
theorem s_pool {nx : St → Hp → Prop} {rt : VK} {e : Expr} {kk : Nat} {j : Nat} {p2 spos pos pp : Pos} {d : Int} {new : HO} (hpool : ∀ H1 (Q : VK), Q (.ref p) H1 → rdE X (.Name "pool" pp) σ H1 Q) (h : PoolAt H p c cells a b t s) (he : ED X M0 e σ H (.int d)) (hk : kk < 5) (hnew : HO.lst ([.ref c, .int a, .int b, .int t, .int s].set kk (.int d)) = new)
    (k : ∀ H1, Ex H H1 → nx σ (upd H1 p new))
    (ha : ∀ v, assign (.Subscript (.Name "pool" pp) (.Constant (.int kk) j p2) spos) X.env v = (do
      let ov ← holding [v] (eval (.Name "pool" pp) X.env)
      let iv ← holding [v, ov] (eval (.Constant (.int kk) j p2) X.env)
      standAt spos
      holding [v, ov, iv] (setItem ov iv v)
      release [v, ov, iv] []) := by intro _; rfl)
    (hs : swapsWithSole [.Subscript (.Name "pool" pp) (.Constant (.int kk) j p2) spos] e pos.line X.env = pure false := by exact sw_noS rfl) (hw : swappedStores [.Subscript (.Name "pool" pp) (.Constant (.int kk) j p2) spos] e X.env = pure none := by rfl)
    (h1 : (assignEach [.Subscript (.Name "pool" pp) (.Constant (.int kk) j p2) spos] X.env).map (·.2) = [assign (.Subscript (.Name "pool" pp) (.Constant (.int kk) j p2) spos) X.env] := by rfl) : rdS X (.Assign [.Subscript (.Name "pool" pp) (.Constant (.int kk) j p2) spos] e pos) { nx := nx, rt := rt } σ H :=
  s_sub set_list (he H H (Ex.refl _) (Wd.ex0 (Ex.refl _)) _ fun v G2 H2 st hv => hpool _ _ (toE pe_int (by
    cases hv
    subst hnew
    have hp := st.ex _ _ h.hp
    refine ⟨p, _, kk, kk, rfl, rfl, hp, ?_, k H2 st.ex⟩
    have : ∀ n : Nat, n < 5 → ixN 5 (n : Int) = some n := by decide
    exact this kk hk))) ha hs hw h1
/-- x = e, all of the heap known -/
theorem s_setM (i : Nat) {D0 : Ends} {x : Str} {e : Expr} {pos xp : Pos} {d : D} (h : ED X M0 e σ H d) (k : ∀ v H1, Ex H H1 → Dp X.K H1 v d → D0.nx (σ.set i (some v)) H1) (hN : X.N.Nodup) (hi : X.N[i]? = some x := by rfl) (hx : Loc X.env.scope x := by first | exact Or.inl rfl | exact Or.inr rfl) (hs : swapsWith e (some (.Name x xp)) pos.line X.env = pure false := by exact sw_no rfl)
    (hf : X.fn x = true ∨ X.env.scope.names.lookup x = some .local := by first | exact .inl rfl | exact .inr rfl) : rdS X (.Assign [.Name x xp] e pos) D0 σ H :=
  s_set i (h H H (Ex.refl _) (Wd.ex0 (Ex.refl _)) _ fun v G2 H2 st hv => k v H2 st.ex (st.wd.gh.dp hv)) hN hi hx hs hf
end
def RetP (K : PySem.W.Frag) (p c : Addr) (G H : Hp) (R : D → Prop) : VK := fun v H' => ∃ d G', Stp (MP p c) G H G' H' ∧ Dp K G' v d ∧ R d
section
variable {P : Program} {w : World} {K : PySem.W.Frag} {mg : Str → Option Value} {base : Heap} {x : Str} {st : Stmt} {f : Addr} {fd : FuncData} {N ps : List Str} {k : Nat}
theorem df_P {R : List D → D → Prop} {Pre : List D → Prop} (T : TD K mg x st ps f fd) (S : FnScope N ps (defScope st)) (len : ∀ ds, Pre ds → ds.length + 1 = ps.length)
    (hb : ∀ (cdv : Value) (A : Around) (outer : List Env) (s : Shared) (H : Hp) (E : XK) (p c : Addr) (G : Hp) (ws : List V) (ds : List D), Room k (bd P w K mg base N x st f cdv A outer s H E).A → Wd (MP p c) G H → DpAll K G ws ds → Pre ds →
      rdB (bd P w K mg base N x st f cdv A outer s H E) (defBody st) { nx := fun _ _ => False, rt := RetP K p c G H (R ds) } (start N (.ref p :: ws)) H) : DF P w K mg base x (k + 1) ps (SpP K R Pre) := by
  refine ⟨f, fd, T.fn.ok S (fun vs H Q E h => ?_) (fun cdv A outer s H vs Q E hr h => ?_), T.g, T.fn.kp, T.b⟩
  · obtain ⟨p, c, G, ws, ds, rfl, _, hd, r, _⟩ := h
    rw [List.length_cons, dps_len hd]; exact len ds r
  · obtain ⟨p, c, G, ws, ds, rfl, gh, hd, r, q⟩ := h
    refine ⟨_, pbR _, rdB_mono (hb cdv A outer s H E p c G ws ds hr gh hd r) (fun σ H' z => z.elim) (fun v H' ⟨d, G', s', z, rr⟩ => q v d G' H' s' z rr)⟩
theorem stp_pool {G H H' : Hp} {p c : Addr} (w : Wd (MP p c) G H) (b : But p H H') (o : poolOk p c H') : Stp (MP p c) G H G H' :=
  ⟨w, Ex.refl _, ⟨fun x u e => b x u (fun z => by subst z; rw [w.off x rfl] at e; cases e) (w.gh x u e), w.off, o⟩, fun x u n e => b x u n e, fun _ _ h => h⟩
theorem ret_P {X : Cx} {e : Expr} {σ : St} {G0 H0 G H : Hp} {R : D → Prop} {p c : Addr} {pos : Pos} {nx : St → Hp → Prop} (s : Stp (MP p c) G0 H0 G H) (h : EP' X (MP p c) e σ G R) : rdS X (.Return (some e) pos) { nx := nx, rt := RetP X.K p c G0 H0 R } σ H :=
  s_ret (h G H (Ex.refl _) s.wd _ fun v d G2 H2 s2 hv r => ⟨d, G2, s.trans s2, hv, r⟩)
/-- x = e by a judgement -/
theorem s_setP (i : Nat) {X : Cx} {M : MS} {σ : St} {G H : Hp} {D0 : Ends} {P : D → Prop} {x : Str} {e : Expr} {pos xp : Pos} (w : Wd M G H) (h : EP' X M e σ G P) (k : ∀ v d G1 H1, Stp M G H G1 H1 → Dp X.K G1 v d → P d → D0.nx (σ.set i (some v)) H1) (hN : X.N.Nodup) (hi : X.N[i]? = some x := by rfl) (hx : Loc X.env.scope x := by first | exact Or.inl rfl | exact Or.inr rfl) (hs : swapsWith e (some (.Name x xp)) pos.line X.env = pure false := by exact sw_no rfl)
    (hf : X.fn x = true ∨ X.env.scope.names.lookup x = some .local := by first | exact .inl rfl | exact .inr rfl) : rdS X (.Assign [.Name x xp] e pos) D0 σ H :=
  s_set i (h G H (Ex.refl _) w _ k) hN hi hx hs hf
theorem s_setD (i : Nat) {X : Cx} {M : MS} {σ : St} {G H : Hp} {D0 : Ends} {d : D} {x : Str} {e : Expr} {pos xp : Pos} (w : Wd M G H) (h : ED X M e σ G d) (k : ∀ v G1 H1, Stp M G H G1 H1 → Dp X.K G1 v d → D0.nx (σ.set i (some v)) H1) (hN : X.N.Nodup) (hi : X.N[i]? = some x := by rfl) (hx : Loc X.env.scope x := by first | exact Or.inl rfl | exact Or.inr rfl) (hs : swapsWith e (some (.Name x xp)) pos.line X.env = pure false := by exact sw_no rfl)
    (hf : X.fn x = true ∨ X.env.scope.names.lookup x = some .local := by first | exact .inl rfl | exact .inr rfl) : rdS X (.Assign [.Name x xp] e pos) D0 σ H :=
  s_set i (h G H (Ex.refl _) w _ k) hN hi hx hs hf
/-- x = a new list -/
theorem s_setL (i : Nat) {X : Cx} {M : MS} {σ : St} {G H : Hp} {D0 : Ends} {P : List D → Prop} {x : Str} {e : Expr} {pos xp : Pos} (w : Wd M G H) (h : EL X M e σ G P) (k : ∀ p vs ds G1 H1, Stp M G H G1 H1 → H p = none → G1 p = none → H1 p = some (.lst vs) → DpAll X.K G1 vs ds → P ds → D0.nx (σ.set i (some (.ref p))) H1) (hN : X.N.Nodup) (hi : X.N[i]? = some x := by rfl) (hx : Loc X.env.scope x := by first | exact Or.inl rfl | exact Or.inr rfl) (hs : swapsWith e (some (.Name x xp)) pos.line X.env = pure false := by exact sw_no rfl)
    (hf : X.fn x = true ∨ X.env.scope.names.lookup x = some .local := by first | exact .inl rfl | exact .inr rfl) : rdS X (.Assign [.Name x xp] e pos) D0 σ H :=
  s_set i (h G H (Ex.refl _) w _ k) hN hi hx hs hf
end
end PL
namespace PLS
open PySem PySem.Spec PyProof.Rows L2
/-! sets whose elements are tuples, nested, of whole numbers -/
mutual
def numK : NestedKey → Bool
  | .num _ => true
  | .tup ks => numKs ks
  | _ => false
def numKs : List NestedKey → Bool
  | [] => true
  | k :: ks => numK k && numKs ks
end
section
variable {P : Program} {w : World} {s : Shared}
/-- a question of a value that is answered b, nothing turned -/
def Says (P : Program) (w : World) (s : Shared) (t : Sem Bool) (b : Bool) : Prop := ∀ (A : Around) (E : Value → Shared → Prop) (Q : Bool → Shared → Prop), Q b s → wpAny (model P w) A t Q E s
theorem says_pure {b : Bool} : Says P w s (pure b) b := fun A E Q q => wpAny_pure q
theorem each_no {n : Nat} {vs : List Value} (h : ∀ v ∈ vs, Says P w s (ofAClassStatement n v) false) (A : Around) (E : Value → Shared → Prop) (Q : Bool → Shared → Prop) (q : Q false s) :
    wpAny (model P w) A (do for y in vs.toArray do { if ← ofAClassStatement n y then return true }; return false) Q E s := by
  refine wpAny_bind ?_
  rw [← Array.forIn_toList]
  refine wpAny_forIn_list _ (fun left st s' => st.1 = none ∧ s' = s ∧ ∀ v ∈ left, v ∈ vs) _ ?_ ?_ _ _ ⟨rfl, rfl, fun v hv => by simpa using hv⟩
  · rintro v left st s' ⟨_, rfl, sub⟩
    refine wpAny_bind (h v (sub v List.mem_cons_self) A E _ ?_)
    exact wpAny_pure ⟨rfl, rfl, fun u hu => sub u (List.mem_cons_of_mem _ hu)⟩
  · rintro ⟨x, y⟩ s' ⟨e, rfl, _⟩
    cases e
    exact wpAny_pure q
theorem each_yes {n : Nat} {vs : List Value} (h : ∀ v ∈ vs, Says P w s (hashByValue n v) true) (A : Around) (E : Value → Shared → Prop) (Q : Bool → Shared → Prop) (q : Q true s) :
    wpAny (model P w) A (do for y in vs.toArray do { if !(← hashByValue n y) then return false }; return true) Q E s := by
  refine wpAny_bind ?_
  rw [← Array.forIn_toList]
  refine wpAny_forIn_list _ (fun left st s' => st.1 = none ∧ s' = s ∧ ∀ v ∈ left, v ∈ vs) _ ?_ ?_ _ _ ⟨rfl, rfl, fun v hv => by simpa using hv⟩
  · rintro v left st s' ⟨_, rfl, sub⟩
    refine wpAny_bind (h v (sub v List.mem_cons_self) A E _ ?_)
    exact wpAny_pure ⟨rfl, rfl, fun u hu => sub u (List.mem_cons_of_mem _ hu)⟩
  · rintro ⟨x, y⟩ s' ⟨e, rfl, _⟩
    cases e
    exact wpAny_pure q
theorem cls_tup {n m : Nat} {a : Addr} {o : Obj} {vs : Array Value} (ho : s.heap.get? a = some o) (hc : o.cls = .type "tuple") (hd : o.data = .seq vs m) (h : ∀ v ∈ vs.toList, Says P w s (ofAClassStatement n v) false) : Says P w s (ofAClassStatement (n + 1) (.ref a)) false := fun A E Q q => by
  unfold ofAClassStatement
  refine wpAny_bind (wpAny_typeOf (T := "tuple") ⟨o, ho, hc⟩ ?_)
  show wpAny _ _ (seqItems? (.ref a) >>= _) _ _ s
  refine wpAny_bind (wpAny_seqItems ho hd ?_)
  have z := each_no h A E Q q
  rw [Array.toArray_toList] at z
  exact z
theorem byv_tup {n m : Nat} {a : Addr} {o : Obj} {vs : Array Value} (ho : s.heap.get? a = some o) (hc : o.cls = .type "tuple") (hd : o.data = .seq vs m) (h : ∀ v ∈ vs.toList, Says P w s (hashByValue n v) true) : Says P w s (hashByValue (n + 1) (.ref a)) true := fun A E Q q => by
  unfold hashByValue
  refine wpAny_bind (wpAny_specialOf (T := "tuple") ⟨o, ho, hc⟩ F.slot_tuple_hash.lookup ?_)
  show wpAny _ _ (seqItems? (.ref a) >>= _) _ _ s
  refine wpAny_bind (wpAny_seqItems ho hd ?_)
  have z := each_yes h A E Q q
  rw [Array.toArray_toList] at z
  exact z
mutual
theorem ask_key : ∀ (k : NestedKey) (v : Value) (n : Nat), NestedIs s.heap k v → k.depth ≤ n → numK k = true → Says P w s (ofAClassStatement n v) false ∧ Says P w s (hashByValue n v) true
  | .none, _, _, _, _, h => by simp [numK] at h
  | .text _, _, _, _, _, h => by simp [numK] at h
  | .num i, _, n, x, _, _ => by
    cases x with
    | int i t => exact ⟨by cases n <;> exact says_pure, by cases n <;> exact says_pure⟩
    | bool e => exact ⟨by cases n <;> exact says_pure, by cases n <;> exact says_pure⟩
  | .tup ks, _, n, x, hn, h => by
    cases x with
    | tup hg hc hd hk =>
      rw [NestedKey.depth] at hn
      obtain ⟨n, rfl⟩ : ∃ m, n = m + 1 := ⟨n - 1, by omega⟩
      have z := ask_keys ks _ n hk (by omega) (by rw [numK] at h; exact h)
      exact ⟨cls_tup hg hc hd fun v hv => (z v hv).1, byv_tup hg hc hd fun v hv => (z v hv).2⟩
theorem ask_keys : ∀ (ks : List NestedKey) (vs : List Value) (n : Nat), NestedAll s.heap ks vs → NestedKey.depthAll ks ≤ n → numKs ks = true → ∀ v ∈ vs, Says P w s (ofAClassStatement n v) false ∧ Says P w s (hashByValue n v) true
  | [], _, _, x, _, _, v, hv => by cases x; cases hv
  | k :: ks, _, n, x, hn, h, v, hv => by
    cases x with
    | cons x1 x2 =>
      rw [NestedKey.depthAll] at hn
      rw [numKs, Bool.and_eq_true] at h
      rcases List.mem_cons.mp hv with e | hv
      · rw [e]; exact ask_key k _ n x1 (by omega) h.1
      · exact ask_keys ks _ n x2 (by omega) h.2 v hv
end
/-- the element k stands at a -/
abbrev At (P : Program) (w : World) (h : Heap) (k : NestedKey) (a : Addr) : Prop := (nestedKind P w).is h k a ∧ numK k = true
theorem At.cls {k : NestedKey} {a : Addr} (x : At P w s.heap k a) : Says P w s (ofAClassStatement 8 (.ref a)) false := (ask_key k _ 8 x.1.1 x.1.2 x.2).1
theorem At.byv {k : NestedKey} {a : Addr} (x : At P w s.heap k a) : Says P w s (hashByValue 8 (.ref a)) true := (ask_key k _ 8 x.1.1 x.1.2 x.2).2
theorem At.quiet {k : NestedKey} {a : Addr} (x : At P w s.heap k a) : Says P w s (eqIsQuiet 8 (.ref a)) true := fun A E Q q => (nestedKind P w).quiet x.1 q
/-- looking among such elements shows nothing -/
theorem seen {k : NestedKey} {a : Addr} {ys : List Value} (x : At P w s.heap k a) (hy : ∀ y ∈ ys, ∃ k' b, y = Value.ref b ∧ At P w s.heap k' b) : Says P w s (searchCouldBeSeen (.ref a) ys) false := fun A E Q q => by
  unfold searchCouldBeSeen
  refine wpAny_bind (wpAny_forIn_list _ (fun left st s' => st.1 = none ∧ s' = s ∧ ∀ v ∈ left, v ∈ ys) _ ?_ ?_ _ _ ⟨rfl, rfl, fun v hv => hv⟩)
  · rintro v left st s' ⟨_, rfl, sub⟩
    obtain ⟨k', b, rfl, hb⟩ := hy v (sub v List.mem_cons_self)
    have nx : ∀ u ∈ left, u ∈ ys := fun u hu => sub u (List.mem_cons_of_mem _ hu)
    by_cases c : (a == b || (carriedByValue (.ref a) && carriedByValue (.ref b))) = true
    · exact wp_if_pos c (wpAny_pure ⟨rfl, rfl, nx⟩)
    · refine wp_if_neg c (wpAny_bind (x.quiet A E _ ?_))
      refine wpAny_bind (hb.quiet A E _ ?_)
      refine wpAny_bind (x.cls A E _ ?_)
      refine wpAny_bind (hb.cls A E _ ?_)
      exact wpAny_pure ⟨rfl, rfl, nx⟩
  · rintro ⟨y, z⟩ s' ⟨e, rfl, _⟩
    cases e
    exact wpAny_pure q
end
end PLS
namespace PLS
open PySem PySem.Spec PyProof.Rows L2
/-- the probe behind c steps -/
abbrev pr (t : SetTable) (h : Int) (c : Nat) : SetTable.Probe := nth t.mask (runAt t.mask (SetTable.bits h % (t.mask + 1)) (SetTable.bits h)) c
theorem nth_nodummy (m : Nat) : ∀ (n : Nat) (p : SetTable.Probe), p.dummy = none → (nth m p n).dummy = none
  | 0, _, h => h
  | n + 1, p, h => nth_nodummy m n (adv m p) (by unfold adv; split <;> exact h)
/-- where a probe from step c ends: at an element of equal hash, or at the first free place K -/
theorem probe_at {t : SetTable} {hs : List Int} (T : TabOk t hs) (hashAt : Nat → Int) {h : Int} {K c : Nat} (hK : way t.mask h K ∉ t.place.toList) (hb : ∀ k, k < K → way t.mask h k ∈ t.place.toList) (hc : c ≤ K) (hf : K < 10 * SetTable.turns t.mask) :
    (∃ q i, c + q < K ∧ t.place.toList[i]? = some (way t.mask h (c + q)) ∧ hashAt i = h ∧ (∀ q' i', q' < q → t.place.toList[i']? = some (way t.mask h (c + q')) → hashAt i' ≠ h) ∧ t.probe hashAt h (pr t h c) = some (.candidate (way t.mask h (c + q)) i (pr t h (c + q + 1)))) ∨
    ((∀ q' i', c + q' < K → t.place.toList[i']? = some (way t.mask h (c + q')) → hashAt i' ≠ h) ∧ t.probe hashAt h (pr t h c) = some (.empty (way t.mask h K) none)) := by
  have sh : ∀ q, nth t.mask (pr t h c) q = pr t h (c + q) := fun q => (nth_add t.mask c _ q).symm
  have jj : ∀ q, (nth t.mask (pr t h c) q).j = way t.mask h (c + q) := fun q => by rw [sh]
  have ck : c + (K - c) = K := by omega
  rcases go_spec t T.ris T.dm hashAt h (10 * SetTable.turns t.mask) (K - c) (pr t h c) (nth_nodummy _ _ _ rfl) (by omega) (fun q hq => by rw [jj]; exact hb _ (by omega)) (by rw [jj, ck]; exact hK) with ⟨q, i, h1, h2, h3, h4, h5⟩ | ⟨h1, h2⟩
  · refine .inl ⟨q, i, by omega, by rw [← jj]; exact h2, h3, fun q' i' hq' hi' => h4 q' i' hq' (by rw [jj]; exact hi'), ?_⟩
    rw [jj, sh] at h5
    exact h5
  · refine .inr ⟨fun q' i' hq' hi' => h1 q' i' (by omega) (by rw [jj]; exact hi'), ?_⟩
    rw [jj, ck] at h2
    exact h2
/-- the elements: where each stands, what it is -/
abbrev Els := List (Addr × NestedKey)
abbrev rws (w : World) (L : Els) : List (Int × Value) := L.map fun p => (p.2.hash w, Value.ref p.1)
abbrev hss (w : World) (L : Els) : List Int := L.map fun p => p.2.hash w
structure NSet (P : Program) (w : World) (h : Heap) (a : Addr) (L : Els) (es : Array (Int × Value)) (ep : Nat) (t : SetTable) : Prop where
  obj : ∃ o, h.get? a = some o ∧ o.ExactSet ∧ o.data = .set es ep t
  rows : es.toList = rws w L
  tab : TabOk t (hss w L)
  nd : (L.map (·.2)).Nodup
  els : ∀ p ∈ L, At P w h p.2 p.1
  plain : t.plain = true
  led : w.params.followText "set-order" = true ∨ t.led = true
  room : L.length * 5 < t.mask * 3
  few : L.length < 77
section
variable {P : Program} {w : World} {A : Around} {E : Value → Shared → Prop} {s : Shared} {a : Addr} {L : Els} {es : Array (Int × Value)} {ep : Nat} {t : SetTable}
theorem NSet.size (R : NSet P w s.heap a L es ep t) : es.size = L.length := by
  have z := congrArg List.length R.rows
  simpa using z
theorem NSet.psz (R : NSet P w s.heap a L es ep t) : t.place.toList.length = L.length := by
  have z := R.tab.sz
  rw [List.length_map] at z
  simpa using z
theorem NSet.fit (R : NSet P w s.heap a L es ep t) : t.fits es.size = true := by
  have z1 := R.psz
  have z2 := R.size
  have z3 := R.room
  rw [Array.length_toList] at z1
  unfold SetTable.fits SetTable.fill
  simp only [R.tab.dm, Bool.and_eq_true, beq_iff_eq, decide_eq_true_eq, Array.size_empty]
  omega
theorem NSet.ent (R : NSet P w s.heap a L es ep t) {i : Nat} {p : Addr × NestedKey} (h : L[i]? = some p) : es[i]? = some (p.2.hash w, Value.ref p.1) := by
  have z : es.toList[i]? = (rws w L)[i]? := by rw [R.rows]
  rw [Array.getElem?_toList, List.getElem?_map, h] at z
  exact z
theorem NSet.keep1 (R : NSet P w s.heap a L es ep t) : ¬ t.gaveWay = true := by
  unfold SetTable.gaveWay; rw [mask_odd R.tab.mok]; decide
/-- THE SEARCH from step c on -/
theorem search (R : NSet P w s.heap a L es ep t) {x : Addr} {k : NestedKey} (hx : At P w s.heap k x) (hu : (nestedKind P w).room A) {K : Nat} (hf : K < 10 * SetTable.turns t.mask) (hK : way t.mask (k.hash w) K ∉ t.place.toList) (hb : ∀ c, c < K → way t.mask (k.hash w) c ∈ t.place.toList) {Q : SetFound → Shared → Prop}
    (hin : k ∈ L.map (·.2) → Q (.there none) s) (hout : k ∉ L.map (·.2) → Q (.free (way t.mask (k.hash w) K) false) s) :
    ∀ (f c : Nat) (stand : Option SetTable.Probe), stand.getD (t.probeStart (k.hash w)) = pr t (k.hash w) c → c ≤ K → K - c < f → (∀ (i : Nat) (p : Addr × NestedKey), L[i]? = some p → p.2 = k → ∃ c', c ≤ c' ∧ c' < K ∧ t.place.toList[i]? = some (way t.mask (k.hash w) c')) →
      wpAny (model P w) A (setSearchFrom a (.ref x) (k.hash w) true f stand) Q E s := by
  obtain ⟨o, ho, hex, hd⟩ := R.obj
  intro f
  induction f with
  | zero => intro c stand _ _ h; omega
  | succ f ih =>
    intro c stand hst hc hfu hre
    rw [setSearchFrom_succ]
    refine wpAny_bind (wpAny_setState_of ho hd R.fit (wp_if_neg R.keep1 ?_))
    have hA : ∀ {i : Nat} {p : Addr × NestedKey}, L[i]? = some p → (fun i => (es[i]?.map (·.1)).getD 0) i = p.2.hash w := fun {i p} hp => by
      show (es[i]?.map (·.1)).getD 0 = _
      rw [R.ent hp]; rfl
    rw [hst]
    rcases probe_at R.tab (fun i => (es[i]?.map (·.1)).getD 0) hK hb hc hf with ⟨q, i, hq, hi, hh, hno, hpr⟩ | ⟨hno, hpr⟩
    · rw [hpr]
      have hil : i < L.length := by rw [← R.psz]; exact (List.getElem?_eq_some_iff.mp hi).1
      obtain ⟨p, hp⟩ : ∃ p, L[i]? = some p := ⟨_, List.getElem?_eq_getElem hil⟩
      have hm := List.mem_of_getElem? hp
      have rest : wpAny (model P w) A (searchRest a (.ref x) (k.hash w) true f es t (way t.mask (k.hash w) (c + q)) i (pr t (k.hash w) (c + q + 1))) Q E s := by
        unfold searchRest
        rw [R.ent hp]
        refine wpAny_bind (wpAny_holding ((nestedKind P w).eqBool hu (R.els p hm).1 hx.1 (wpAny_bind (wpAny_setState_of ho hd R.fit ?_))))
        by_cases e : p.2 = k
        · exact wp_if_pos (by simp [e]) (wpAny_pure (hin (List.mem_map.mpr ⟨p, hm, e⟩)))
        · refine wp_if_neg (by simp [e]) ?_
          have sl : t.slot (way t.mask (k.hash w) (c + q)) = .live i := slot_live R.tab.ris hi
          show wpAny (model P w) A _ Q E s
          rw [sameMem]
          simp only [if_true, sl, R.ent hp]
          refine wpAny_bind (wpAny_isSame_ref_self (wpAny_bind (wpAny_pure ?_)))
          simp only [if_true]
          refine wp_if_neg (by simp [e]) (ih (c + q + 1) _ rfl (by omega) (by omega) fun i0 p0 h0 e0 => ?_)
          obtain ⟨c', a1, a2, a3⟩ := hre i0 p0 h0 e0
          refine ⟨c', ?_, a2, a3⟩
          by_cases z : c' < c + q
          · exact absurd ((hA h0).trans (by rw [e0])) (hno (c' - c) i0 (by omega) (by rw [show c + (c' - c) = c' by omega]; exact a3))
          · by_cases y : c' = c + q
            · rw [y] at a3
              have s0 := slot_live R.tab.ris a3
              rw [sl] at s0
              injection s0 with s0
              rw [← s0, hp] at h0
              cases h0
              exact absurd e0 e
            · omega
      by_cases l : t.led = true
      · exact wp_if_neg (by simp [l]) rest
      · refine wp_if_pos (by simp [l]) (wpAny_bind (seen hx (fun y hy => ?_) A E _ (wp_if_neg (by decide) rest)))
        obtain ⟨z, hz, rfl⟩ := List.mem_map.mp hy
        have z1 : z ∈ es.toList := by have := (show z ∈ es ∧ z.1 = k.hash w by simpa using hz).1; simpa using this
        rw [R.rows] at z1
        obtain ⟨p2, hp2, rfl⟩ := List.mem_map.mp z1
        exact ⟨p2.2, p2.1, rfl, R.els p2 hp2⟩
    · rw [hpr]
      refine wpAny_pure (hout fun hm => ?_)
      obtain ⟨p0, h0, e0⟩ := List.mem_map.mp hm
      obtain ⟨i0, hi0⟩ := List.getElem?_of_mem h0
      obtain ⟨c', a1, a2, a3⟩ := hre i0 p0 hi0 e0
      exact hno (c' - c) i0 (by omega) (by rw [show c + (c' - c) = c' by omega]; exact a3) ((hA hi0).trans (by rw [e0]))
end
end PLS
namespace PLS
open PySem PySem.Spec PyProof.Rows L2
theorem pick_all {α : Type} : ∀ l : List α, (List.range l.length).filterMap (fun i => l[i]?) = l
  | [] => rfl
  | x :: l => by
    rw [List.length_cons, List.range_succ_eq_map]
    show x :: (List.map Nat.succ (List.range l.length)).filterMap (fun i => (x :: l)[i]?) = x :: l
    rw [List.filterMap_map]
    exact congrArg (x :: ·) (pick_all l)
theorem fm_congr {α β : Type} {f g : α → Option β} : ∀ {l : List α}, (∀ x ∈ l, f x = g x) → l.filterMap f = l.filterMap g
  | [], _ => rfl
  | x :: l, h => by
    have z := fm_congr (l := l) fun y hy => h y (List.mem_cons_of_mem _ hy)
    have e := h x List.mem_cons_self
    cases q : g x with
    | none => rw [List.filterMap_cons_none (e.trans q), List.filterMap_cons_none q, z]
    | some b => rw [List.filterMap_cons_some (e.trans q), List.filterMap_cons_some q, z]
theorem picks {w : World} {L : Els} {es : Array (Int × Value)} {order : Array Nat} (hr : es.toList = rws w L) (hp : order.toList.Perm (List.range L.length)) :
    ∃ L2 : Els, (order.filterMap (es[·]?)).toList = rws w L2 ∧ L2.Perm L ∧ hss w L2 = order.toList.map fun i => (es.map (·.1)).getD i 0 := by
  have ge : ∀ i : Nat, es[i]? = (L[i]?).map fun p => (p.2.hash w, Value.ref p.1) := fun i => by
    rw [← Array.getElem?_toList, hr, List.getElem?_map]
  refine ⟨order.toList.filterMap fun i => L[i]?, ?_, ?_, ?_⟩
  · show _ = List.map _ _
    rw [Array.toList_filterMap, List.map_filterMap]
    exact fm_congr fun i _ => ge i
  · have z := hp.filterMap fun i => L[i]?
    rw [pick_all] at z
    exact z
  · show List.map _ _ = _
    rw [List.map_filterMap, ← List.filterMap_eq_map]
    refine fm_congr fun i hi => ?_
    have hlt : i < L.length := List.mem_range.mp (hp.mem_iff.mp hi)
    have e1 : L[i]? = some L[i] := List.getElem?_eq_getElem hlt
    have e2 := ge i
    rw [e1] at e2
    show (L[i]?).map (fun p => p.2.hash w) = some ((es.map (·.1)).getD i 0)
    rw [e1]
    simp [Array.getD_eq_getD_getElem?, Array.getElem?_map, e2]
theorem mid {α : Type} (L : List α) (p : Nat) (x : α) : (L.take p ++ x :: L.drop p).Perm (x :: L) := by
  have z : (L.take p ++ x :: L.drop p).Perm (x :: (L.take p ++ L.drop p)) := List.perm_middle
  rwa [List.take_append_drop] at z
section
variable {P : Program} {w : World} {A : Around} {E : Value → Shared → Prop} {s : Shared} {a : Addr} {L : Els} {es : Array (Int × Value)} {ep : Nat} {t : SetTable}
/-- an element stands beside the set -/
theorem At.beside {h h' : Heap} {k : NestedKey} {b : Addr} {o : Obj} (x : At P w h k b) (ho : h.get? a = some o) (hd : o.data = .set es ep t) (hs : Heap.SameBut a h h') : At P w h' k b :=
  ⟨nestedKind_stays.stays (fun c oc vs n hc hdat => (hs.2 c (fun z => by subst z; rw [ho] at hc; cases hc; rw [hd] at hdat; cases hdat)).trans hc) x.1, x.2⟩
/-- as adding asks -/
theorem searchIn (R : NSet P w s.heap a L es ep t) {x : Addr} {k : NestedKey} (hx : At P w s.heap k x) (hu : (nestedKind P w).room A) {Q : SetFound → Shared → Prop} (hin : k ∈ L.map (·.2) → Q (.there none) s)
    (hout : ∀ K, k ∉ L.map (·.2) → way t.mask (k.hash w) K ∉ t.place.toList → (∀ c, c < K → way t.mask (k.hash w) c ∈ t.place.toList) → Q (.free (way t.mask (k.hash w) K) false) s) : wpAny (model P w) A (setSearch a (.ref x) (k.hash w) true) Q E s := by
  have hroom := R.room
  obtain ⟨K, h1, h2, h3⟩ := R.tab.first (by rw [List.length_map]; omega) (k.hash w)
  have hbig : K < 100000 := by
    have z : 10 * SetTable.turns t.mask ≤ 1420 := by
      unfold SetTable.turns
      rcases R.tab.mok with e | e | e <;> rw [e] <;> decide
    omega
  unfold setSearch
  refine search R hx hu h1 h2 h3 hin (fun hn => hout K hn h2 h3) 100000 0 none rfl (Nat.zero_le _) (by omega) fun i p hp hk => ?_
  have hi : (hss w L)[i]? = some (k.hash w) := by rw [List.getElem?_map, hp, ← hk]; rfl
  have hil : i < t.place.toList.length := by rw [R.psz]; exact (List.getElem?_eq_some_iff.mp hp).1
  obtain ⟨c, hc, e⟩ := R.tab.before h2 hi (List.getElem?_eq_getElem hil)
  exact ⟨c, Nat.zero_le _, hc, by rw [List.getElem?_eq_getElem hil, e]⟩
/-- all laid anew in a larger table -/
theorem relay {o : Obj} (ho : s.heap.get? a = some o) (hex : o.ExactSet) (hd : o.data = .set es ep t) (hrows : es.toList = rws w L) (T0 : TabOk t (hss w L)) (hfl : L.length ≤ t.mask) (nd : (L.map (·.2)).Nodup) (els : ∀ p ∈ L, At P w s.heap p.2 p.1) (pl : t.plain = true)
    (ld : w.params.followText "set-order" = true ∨ t.led = true) (few : L.length < 77) {wanted M : Nat} (hw : SetTable.sizeAbove wanted - 1 = M) (hM : MaskOk M) (hw2 : SetTable.sizeAbove wanted ≤ 128) (hn : L.length * 5 < M * 3) {Q : Unit → Shared → Prop}
    (hQ : ∀ h' L' es' ep' t', Heap.SameBut a s.heap h' → NSet P w h' a L' es' ep' t' → L'.Perm L → Q () { s with heap := h' }) : wpAny (model P w) A (setRelay a wanted) Q E s := by
  have hsl : es.size = L.length := by have z := congrArg List.length hrows; simpa using z
  have hps : t.place.size = L.length := by have z := T0.sz; rwa [List.length_map] at z
  have hfit : t.fits es.size = true := by
    unfold SetTable.fits SetTable.fill
    simp only [T0.dm, Bool.and_eq_true, beq_iff_eq, decide_eq_true_eq, Array.size_empty]
    omega
  obtain ⟨t', order, e, hp, T, em, el, epl, _⟩ := relaid_ok t (hs := es.map (·.1)) (wanted := wanted) hw hM (by rw [Array.size_map, hsl]; omega)
  rw [Array.size_map, hsl] at hp
  obtain ⟨L2, r1, r2, r3⟩ := picks hrows hp
  rw [← r3] at T
  have hs2 : (order.filterMap (es[·]?)).size = es.size := by
    have z := congrArg List.length r1
    rw [Array.length_toList, List.length_map, r2.length_eq] at z
    omega
  rw [setRelay_eq]
  refine wpAny_bind (wpAny_setState_of ho hd hfit (wp_if_neg (by rw [sizeLine_eq]; omega) ?_))
  rw [e]
  refine wpAny_bind (wp_if_neg (by rw [hs2]; simp) (wpAny_pure (wpAny_storeSet_of ho hd ?_ (by rw [hs2, hsl, sizeLine_eq]; omega))))
  have sb : Heap.SameBut a s.heap (s.heap.update a (Obj.putSet (order.filterMap (es[·]?)) t')) := Heap.SameBut.update ..
  exact hQ _ L2 _ (ep + 1) t' sb ⟨⟨_, store_at ho hd, ⟨hex.1, hex.2.1, hex.2.2⟩, rfl⟩, r1, T, (r2.map (·.2)).nodup_iff.mpr nd, fun p hp => (els p (r2.mem_iff.mp hp)).beside ho hd sb, by rw [epl]; exact pl, by rw [el]; exact ld, by rw [r2.length_eq, em]; exact hn, by rw [r2.length_eq]; exact few⟩ r2
end
end PLS
namespace PLS
open PySem PySem.Spec PyProof.Rows L2
section
variable {P : Program} {w : World} {A : Around} {E : Value → Shared → Prop} {s : Shared} {a : Addr} {L : Els} {es : Array (Int × Value)} {ep : Nat} {t : SetTable}
/-- one element more, or none -/
theorem add (R : NSet P w s.heap a L es ep t) {x : Addr} {k : NestedKey} (hx : At P w s.heap k x) (hu : (nestedKind P w).room A) (hfew : k ∉ L.map (·.2) → L.length + 1 < 77) {Q : Bool → Shared → Prop}
    (hQ : ∀ b h' L' es' ep' t', Heap.SameBut a s.heap h' → NSet P w h' a L' es' ep' t' → (k ∈ L.map (·.2) → L' = L) → (k ∉ L.map (·.2) → L'.Perm ((x, k) :: L)) → Q b { s with heap := h' }) : wpAny (model P w) A (setAddHashed a (.ref x) (k.hash w)) Q E s := by
  obtain ⟨o, ho, hex, hd⟩ := R.obj
  have hsl := R.size
  have hroom := R.room
  unfold setAddHashed
  rw [show (100000 : Nat) = 99999 + 1 from rfl, setAddHashedIn_succ]
  refine wpAny_holding (wpAny_bind (wpAny_setState_of ho hd R.fit (wp_if_neg (by simp [byScan, Value.scannable]) ?_)))
  refine wpAny_bind (searchIn R hx hu (fun hm => wpAny_pure (hQ false s.heap L es ep t (Heap.SameBut.refl a s.heap) R (fun _ => rfl) fun z => absurd hm z)) fun K hm hK hb => ?_)
  dsimp only; refine wpAny_bind (wpAny_setState_of ho hd R.fit ?_)
  dsimp only; have few' := hfew hm
  obtain ⟨q1, q2, q3, q4, q5, q6, q7, q8, q9⟩ := R.tab.put hK hb
  have hp1 : (t.put (way t.mask (k.hash w) K)).1.plain = true := q6.trans R.plain
  generalize hpt : t.put (way t.mask (k.hash w) K) = pt at q1 q3 q4 q5 q6 q7 q8 q9 hp1 ⊢
  obtain ⟨t1, p⟩ := pt
  dsimp only at q1 q3 q4 q5 q6 q7 q8 q9 hp1 ⊢
  subst q1
  refine wp_if_pos hp1 (wpAny_bind (hx.byv A E _ ?_))
  simp only [if_true]
  have hin : (SetTable.insertAt es (SetTable.below t.place (way t.mask (k.hash w) K)) (k.hash w, Value.ref x)).toList = rws w (L.take (SetTable.below t.place (way t.mask (k.hash w) K)) ++ (x, k) :: L.drop (SetTable.below t.place (way t.mask (k.hash w) K))) := by
    rw [SetTable.toList_insertAt, R.rows]
    simp only [List.map_append, List.map_cons, List.map_take, List.map_drop]
  have q3' : TabOk t1 (hss w (L.take (SetTable.below t.place (way t.mask (k.hash w) K)) ++ (x, k) :: L.drop (SetTable.below t.place (way t.mask (k.hash w) K)))) := by
    have z := q3
    simp only [List.map_append, List.map_cons, List.map_take, List.map_drop]
    exact z
  generalize SetTable.below t.place (way t.mask (k.hash w) K) = p at hin q3' ⊢
  have pm := mid L p (x, k)
  have hlen : (L.take p ++ (x, k) :: L.drop p).length = L.length + 1 := pm.length_eq
  have nd1 : ((L.take p ++ (x, k) :: L.drop p).map (·.2)).Nodup := (pm.map (·.2)).nodup_iff.mpr (List.nodup_cons.mpr ⟨hm, R.nd⟩)
  have hes : (SetTable.insertAt es p (k.hash w, Value.ref x)).size = L.length + 1 := by
    have z := congrArg List.length hin
    rw [Array.length_toList, List.length_map, hlen] at z
    exact z
  generalize SetTable.insertAt es p (k.hash w, Value.ref x) = es1 at hin hes ⊢
  generalize L.take p ++ (x, k) :: L.drop p = L1 at pm hlen q3' nd1 hin
  refine wpAny_bind (wpAny_storeSet_of ho hd ?_ (by rw [hes, sizeLine_eq]; omega))
  have sb : Heap.SameBut a s.heap (s.heap.update a (Obj.putSet es1 t1)) := Heap.SameBut.update ..
  have ho1 := store_at (es' := es1) (t' := t1) ho hd
  generalize s.heap.update a (Obj.putSet es1 t1) = h1 at sb ho1 ⊢
  have els1 : ∀ p ∈ L1, At P w h1 p.2 p.1 := fun p hp => by
    rcases List.mem_cons.mp (pm.mem_iff.mp hp) with e | hp
    · rw [e]; exact hx.beside ho hd sb
    · exact (R.els p hp).beside ho hd sb
  have ld1 : w.params.followText "set-order" = true ∨ t1.led = true := q5 ▸ R.led
  have hfl : t1.tooFull = decide ((L.length + 1) * 5 ≥ t1.mask * 3) := by
    unfold SetTable.tooFull
    rw [q9, List.length_map]
  by_cases hf : t1.tooFull = true
  · refine wp_if_pos (by simp [hf]) (wpAny_bind ?_)
    have full : (L.length + 1) * 5 ≥ t1.mask * 3 := by rw [hfl] at hf; exact of_decide_eq_true hf
    have two : (t.mask = 7 ∧ L.length = 4) ∨ (t.mask = 31 ∧ L.length = 18) := by
      rw [q4] at full
      rcases R.tab.mok with e | e | e <;> rw [e] at full hroom
      · left; exact ⟨e, by omega⟩
      · right; exact ⟨e, by omega⟩
      · omega
    rw [hsl]
    have go : ∀ M, SetTable.sizeAbove (SetTable.grown (L.length + 1)) - 1 = M → MaskOk M → SetTable.sizeAbove (SetTable.grown (L.length + 1)) ≤ 128 → (L.length + 1) * 5 < M * 3 → wpAny (model P w) A (setRelay a (SetTable.grown (L.length + 1))) (fun _ s' => wpAny (model P w) A (pure true) Q E s') E { s with heap := h1 } := fun M m1 m2 m3 m4 =>
      relay (s := { s with heap := h1 }) ho1 ⟨hex.1, hex.2.1, hex.2.2⟩ rfl hin q3' (by rw [hlen, q4]; rcases two with ⟨e, e2⟩ | ⟨e, e2⟩ <;> omega) nd1 els1 hp1 ld1 (by omega) m1 m2 m3 (by rw [hlen]; exact m4) fun h2 L2 es2 ep2 t2 sb2 R2 pm2 =>
        wpAny_pure (hQ true h2 L2 es2 ep2 t2 (sb.trans sb2) R2 (fun z => absurd z hm) fun _ => pm2.trans pm)
    rcases two with ⟨_, e2⟩ | ⟨_, e2⟩
    · exact go 31 (by rw [e2, size_20]) (.inr (.inl rfl)) (by rw [e2, size_20]; decide) (by omega)
    · exact go 127 (by rw [e2, size_76]) (.inr (.inr rfl)) (by rw [e2, size_76]; decide) (by omega)
  · refine wp_if_neg (by simp [hf]) ?_
    have notfull : ¬ (L.length + 1) * 5 ≥ t1.mask * 3 := fun z => hf (by rw [hfl]; exact decide_eq_true z)
    exact wpAny_pure (hQ true h1 L1 es1 (ep + 1) t1 sb ⟨⟨_, ho1, ⟨hex.1, hex.2.1, hex.2.2⟩, rfl⟩, hin, q3', nd1, els1, hp1, ld1, by rw [hlen]; omega, by omega⟩ (fun z => absurd z hm) fun _ => pm)
theorem NSet.at' {h h' : Heap} (R : NSet P w h a L es ep t) (ha : ∀ o, h.get? a = some o → h'.get? a = some o) (ht : ∀ p ∈ L, At P w h' p.2 p.1) : NSet P w h' a L es ep t := by
  obtain ⟨o, ho, z⟩ := R.obj
  exact ⟨⟨o, ha o ho, z⟩, R.rows, R.tab, R.nd, ht, R.plain, R.led, R.room, R.few⟩
theorem At.keep {h h' : Heap} {k : NestedKey} {b : Addr} (x : At P w h k b) (hk : ∀ c o, h.get? c = some o → h'.get? c = some o) : At P w h' k b := ⟨nestedKind_stays.stays (fun c o _ _ e _ => hk c o e) x.1, x.2⟩
/-- a new set -/
theorem NSet.fresh {h : Heap} (ho : h.get? a = some { cls := .type "set", dict := none, data := .set #[] 0 (.fresh 0 0 (!w.params.followText "set-order")) }) : NSet P w h a [] #[] 0 (.fresh 0 0 (!w.params.followText "set-order")) :=
  ⟨⟨_, ho, ⟨rfl, rfl, rfl⟩, rfl⟩, rfl, ⟨List.Pairwise.nil, rfl, rfl, .inl rfl, fun x hx => (by cases hx), fun i h j hi => (by simp at hi)⟩, List.nodup_nil, fun p hp => (by cases hp), rfl, by
    show _ ∨ (!w.params.followText "set-order") = true
    cases w.params.followText "set-order"
    · exact .inr rfl
    · exact .inl rfl, by show 0 * 5 < 7 * 3; decide, by show 0 < 77; decide⟩
end
end PLS
namespace PLS
open PySem PySem.Spec PyProof.Rows L2
theorem ndl {α : Type} [DecidableEq α] : ∀ {l m : List α}, l.Nodup → (∀ x ∈ l, x ∈ m) → l.length ≤ m.length
  | [], _, _, _ => Nat.zero_le _
  | x :: l, m, h, s => by
    have h' := List.nodup_cons.mp h
    have h1 := s x List.mem_cons_self
    have h2 := ndl (l := l) (m := m.erase x) h'.2 fun y hy => (List.mem_erase_of_ne (fun z => h'.1 (by rw [← z]; exact hy))).mpr (s y (List.mem_cons_of_mem _ hy))
    have h3 := List.length_pos_of_mem h1
    rw [List.length_erase_of_mem h1] at h2
    rw [List.length_cons]; omega
/-- what a set has of the first i items -/
structure Had (ks : Els) (i : Nat) (L : Els) : Prop where
  sub : ∀ p ∈ L, p ∈ ks.take i
  all : ∀ p ∈ ks.take i, p.2 ∈ L.map (·.2)
theorem Had.none {ks : Els} : Had ks 0 [] := ⟨fun p h => (by cases h), fun p h => (by simp at h)⟩
theorem Had.next {ks L L' : Els} {i : Nat} {x : Addr × NestedKey} (g : Had ks i L) (h : ks[i]? = some x) (c1 : x.2 ∈ L.map (·.2) → L' = L) (c2 : x.2 ∉ L.map (·.2) → L'.Perm (x :: L)) : Had ks (i + 1) L' := by
  have tk : ks.take (i + 1) = ks.take i ++ [x] := by rw [List.take_succ, h]; rfl
  by_cases c : x.2 ∈ L.map (·.2)
  · rw [c1 c]
    refine ⟨fun p hp => by rw [tk]; exact List.mem_append_left _ (g.sub p hp), fun p hp => ?_⟩
    rw [tk] at hp
    rcases List.mem_append.mp hp with z | z
    · exact g.all p z
    · rw [List.mem_singleton.mp z]; exact c
  · have pm := c2 c
    refine ⟨fun p hp => ?_, fun p hp => ?_⟩
    · rw [tk]
      rcases List.mem_cons.mp (pm.mem_iff.mp hp) with z | z
      · rw [z]; exact List.mem_append_right _ List.mem_cons_self
      · exact List.mem_append_left _ (g.sub p z)
    · rw [(pm.map (·.2)).mem_iff]
      rw [tk] at hp
      rcases List.mem_append.mp hp with z | z
      · exact List.mem_cons_of_mem _ (g.all p z)
      · rw [List.mem_singleton.mp z]; exact List.mem_cons_self
/-- few different ones -/
def Few (ks : Els) : Prop := ∃ m : List NestedKey, m.length < 77 ∧ ∀ p ∈ ks, p.2 ∈ m
theorem Few.more {ks L : Els} {k : NestedKey} (h : Few ks) (nd : (L.map (·.2)).Nodup) (sub : ∀ p ∈ L, p ∈ ks) (hk : ∃ p ∈ ks, p.2 = k) (n : k ∉ L.map (·.2)) : L.length + 1 < 77 := by
  obtain ⟨m, hm, hs⟩ := h
  have z := ndl (l := k :: L.map (·.2)) (m := m) (List.nodup_cons.mpr ⟨n, nd⟩) fun x hx => by
    rcases List.mem_cons.mp hx with e | hx
    · obtain ⟨p, hp, e2⟩ := hk
      rw [e, ← e2]; exact hs p hp
    · obtain ⟨p, hp, e⟩ := List.mem_map.mp hx
      rw [← e]; exact hs p (sub p hp)
  rw [List.length_cons, List.length_map] at z
  omega
section
variable {P : Program} {w : World} {A : Around} {E : Value → Shared → Prop}
/-- what stands before the loop stays: b at h0 -/
abbrev Old (h0 : Heap) (s : Shared) : Prop := ∀ b o, h0.get? b = some o → s.heap.get? b = some o
theorem upd_loop {I S : Addr} {fp wr : List Addr} {Gs : Array GenState → Array GenState → Prop} {n : Nat} {Pv : Nat → Value → Prop} {St : Nat → Shared → Prop} {R : Result → Shared → Prop} {ks : Els} {h0 : Heap}
    (Wk : WalksS P w A.in1 I fp wr Gs n Pv St) (hSf : S ∉ fp) (hn : n = ks.length) (few : Few ks) (hval : ∀ i v, Pv i v → ∃ p, ks[i]? = some p ∧ v = .ref p.1) (hk : ∀ p ∈ ks, At P w h0 p.2 p.1) (hS0 : h0.get? S = none) (hw0 : ∀ b ∈ wr, h0.get? b = none) (hu : (nestedKind P w).room A.in1) :
    ∀ (m i : Nat) (s : Shared) (L : Els) (es : Array (Int × Value)) (ep : Nat) (t : SetTable), n - i = m → i ≤ n → St i s → Old h0 s → NSet P w s.heap S L es ep t → Had ks i L →
      (∀ s' L es ep t, Moved (S :: wr) Gs s s' → NSet P w s'.heap S L es ep t → Had ks n L → Old h0 s' → R (.ok (.ret .none)) s') → codeAny (model P w) A (.builtin "set.update.loop" ⟨[.ref S, .ref I], []⟩) R s := by
  have hSw : S ∉ wr := fun z => hSf (Wk.sub _ z)
  have old : ∀ {s s' : Shared}, Moved wr Gs s s' → Old h0 s → Old h0 s' := fun mv q b o e => mv.heap b o (fun z => by rw [hw0 b z] at e; cases e) (q b o e)
  have els : ∀ {s : Shared} {i : Nat} {L : Els}, Old h0 s → Had ks i L → ∀ p ∈ L, At P w s.heap p.2 p.1 := fun q g p hp => (hk p (List.mem_of_mem_take (g.sub p hp))).keep q
  intro m
  induction m with
  | zero =>
    intro i s L es ep t hm hi hst hold hS g hR
    have e : i = n := by omega
    subst e
    refine codeAny_builtin F.entry_set_update_loop ?_
    rw [Around.under_plainId F.plain_set_update_loop _]; show wpAny _ A.in1 (pyNext (.ref I) >>= _) _ _ s
    refine wpAny_bind (Wk.done s _ _ hst fun s' mv => ?_)
    have old' := old mv hold
    exact wpAny_pure (hR s' L es ep t (mv.mono fun b hb => List.mem_cons_of_mem _ hb) (hS.at' (fun o e => mv.heap S o hSw e) (els old' g)) g old')
  | succ m ih =>
    intro i s L es ep t hm hi hst hold hS g hR
    refine codeAny_builtin F.entry_set_update_loop ?_
    rw [Around.under_plainId F.plain_set_update_loop _]; show wpAny _ A.in1 (pyNext (.ref I) >>= _) _ _ s
    refine wpAny_bind (Wk.item i s _ _ (by omega) hst fun v s' hP hst' mv => ?_)
    obtain ⟨p, hp, rfl⟩ := hval i v hP
    have old' := old mv hold
    have hS' := hS.at' (fun o e => mv.heap S o hSw e) (els old' g)
    have hpk := List.mem_of_getElem? hp
    have hx := (hk p hpk).keep old'
    show wpAny _ A.in1 (holding [Value.ref p.1] (setAdd S (.ref p.1)) >>= _) _ _ s'
    unfold setAdd
    refine wpAny_bind (wpAny_holding (wpAny_holding (wpAny_bind ((nestedKind P w).pyHash hu hx.1 ?_))))
    refine add (s := { s' with toks := s'.toks + (nestedKind P w).draws p.2 }) hS' hx hu (few.more hS'.nd (fun q hq => List.mem_of_mem_take (g.sub q hq)) ⟨p, hpk, rfl⟩) fun b h' L' es' ep' t' sb hS2 c1 c2 => ?_
    have g' := g.next hp c1 c2
    have old2 : ∀ b o, h0.get? b = some o → h'.get? b = some o := fun b o e => (sb.2 b (fun z => by rw [z, hS0] at e; cases e)).trans (old' b o e)
    refine wpAny_pure ⟨plainId_quiet F.plain_set_update_loop _, ih (i + 1) _ L' es' ep' t' (by omega) (by omega) (Wk.frame _ s' _ _ hst' (Nat.le_add_right _ _) fun b hb o e => (sb.2 b (fun z : b = S => hSf (by rw [← z]; exact hb))).trans e) old2 hS2 g' fun s2 L2 es2 ep2 t2 mv2 hS3 g3 old3 => ?_⟩
    exact hR s2 L2 es2 ep2 t2 (Moved.trans Wk.gtrans ((mv.mono fun b hb => List.mem_cons_of_mem _ hb).then_heap (Nat.le_add_right _ _) fun b o hb e => (sb.2 b (fun z : b = S => hb (by rw [z]; exact List.mem_cons_self))).trans e) mv2) hS3 g3 old3
end
end PLS
namespace PLS
open PySem PySem.Spec PyProof.Rows L2
section
variable {P : Program} {w : World} {A : Around} {E : Value → Shared → Prop} {s : Shared}
abbrev newS (w : World) : Obj := { cls := .type "set", dict := none, data := .set #[] 0 (.fresh 0 0 (!w.params.followText "set-order")) }
/-- set(a list) -/
theorem call_set {l : Addr} {items : Array Value} (ks : Els) {Q : Value → Shared → Prop} (hh : A.handled = none) (hl : s.heap.IsList l items) (hit : items.toList = ks.map fun p => Value.ref p.1) (hk : ∀ p ∈ ks, At P w s.heap p.2 p.1) (few : Few ks) (hu : A.units + 16 < cLine)
    (h : ∀ (h' : Heap) (tk : Nat) (L : Els) es ep t, NSet P w h' s.heap.objs.size L es ep t → Had ks ks.length L → (∀ b o, s.heap.get? b = some o → h'.get? b = some o) → Q (.ref s.heap.objs.size) { s with heap := h', toks := tk }) : wpAny (model P w) A (call (.type "set") [.ref l]) Q E s := by
  have hisz : items.size = ks.length := by have z := congrArg List.length hit; simpa using z
  obtain ⟨c, tl, hmro⟩ := F.called_set.mro
  have hmade := F.called_set.made
  have hsub := F.called_set.sub
  refine wpAny_call (codeAny_of_tree (?_ : wpAny _ _ (callAny (.type "set") _) _ _ _))
  refine wpAny_pure ⟨Code.quiet_builtin _ (by decide +kernel), codeAny_builtin F.entry_type_call ?_⟩
  rw [Around.under_plain (weight_type_call_type "set" [.ref l] []) rfl]
  have h1 := F.called_set.notType
  have h2 := F.called_set.canCreate
  have hct := F.typeCall_set_1 (.ref l)
  repeat (any_goals (first | assumption | wp_step))
  have hS : (s.heap.push (newS w)).get? s.heap.objs.size = some (newS w) := Heap.get?_push_size _ rfl
  refine codeAny_mono (code_set_led1 (.ref l) (E := E) (Q₁ := fun obj s₁ => obj = .ref s.heap.objs.size ∧ s₁ = { s with heap := s.heap.push (newS w) }) ⟨rfl, rfl⟩) fun r s₁ hr => ?_
  cases r with
  | error e => exact hr
  | ok fl =>
    cases fl with
    | ret obj =>
      obtain ⟨rfl, rfl⟩ := hr
      have hT : Shared.TypeIs { s with heap := s.heap.push (newS w) } (.ref s.heap.objs.size) "set" := ⟨_, hS, rfl⟩
      have hli := F.called_set.init.lookup
      have hbi := F.called_set.init.bind (.ref s.heap.objs.size)
      repeat (any_goals (first | assumption | wp_step))
      refine codeAny_mono (codeAny_call_builtin (R := wants (fun r s₂ => r = .none ∧ ∃ (h' : Heap) (tk : Nat) (L : Els) (es : Array (Int × Value)) (ep : Nat) (t : SetTable), s₂ = { s with heap := h', toks := tk } ∧ NSet P w h' s.heap.objs.size L es ep t ∧ Had ks ks.length L ∧ (∀ b o, s.heap.get? b = some o → h'.get? b = some o)) E) F.called_set.init.plain F.entry_set_init (check_set_init_1 hT ?_)) fun r₂ s₂ hr₂ => ?_
      · obtain ⟨⟨ocls, odict, odata, oslots⟩, hol, hcl, nl, hdl⟩ := hl
        simp only at hcl hdl
        subst hcl; subst hdl
        have hol' : (s.heap.push (newS w)).get? l = some { cls := .type "list", dict := odict, data := .seq items nl, slots := oslots } := Heap.get?_push_of_some _ hol
        have hsls := F.sub_list_set
        have hslf := F.sub_list_frozenset
        have hne : (Value.type "list" == Value.type "dict") = false := by decide
        have hl1 : (s.heap.push (newS w)).IsList l items := ⟨_, hol', rfl, nl, rfl⟩
        unfold Builtin.«set.__init__» noKeywords Builtin.Frozenset.updateFrom
        generalize hPI : pyIter = PI
        wp_walk
        subst hPI
        refine wpAny_pyIter_list hl1 (wpAny_bind (wpAny_runValue ?_))
        have hlS : l < s.heap.objs.size := Heap.lt_size hol
        have hz1 : (s.heap.push (newS w)).objs.size = s.heap.objs.size + 1 := Heap.size_push ..
        have nowhere : ∀ b, s.heap.objs.size ≤ b → s.heap.get? b = none := fun b hb => by
          cases q : s.heap.get? b with
          | none => rfl
          | some o => exact absurd (Nat.lt_of_lt_of_le (Heap.lt_size q) hb) (Nat.lt_irrefl _)
        refine upd_loop ((Walks.list (by simp [hh]) _ l (by rw [hz1]; exact Nat.ne_of_lt (Nat.lt_succ_of_lt hlS)) items).toS) (by rw [hz1]; simp only [List.mem_cons, List.not_mem_nil, or_false, not_or]; exact ⟨Nat.ne_of_lt (Nat.lt_succ_self _), Nat.ne_of_gt hlS⟩) hisz few (fun i v hv => ?_) hk (nowhere _ (Nat.le_refl _)) (fun b hb => nowhere b (by rw [List.mem_singleton.mp hb, hz1]; omega)) (by show _ + 8 < cLine; simp only [Around.in1_units]; omega) (items.size - 0) 0 _ [] #[] 0 _ (by omega) (Nat.zero_le _)
          ⟨⟨_, Heap.get?_push_size _ rfl, rfl, rfl⟩, (hl1.push _)⟩ (fun b o e => Heap.get?_push_of_some _ (Heap.get?_push_of_some _ e)) (NSet.fresh (Heap.get?_push_of_some _ hS)) Had.none fun s' L es ep t mv hS' g' old' => ?_
        · have q : items.toList[i]? = some v := by rw [Array.getElem?_toList]; exact hv
          rw [hit, List.getElem?_map] at q
          cases e : ks[i]? with
          | none => rw [e] at q; cases q
          | some p => rw [e] at q; exact ⟨p, rfl, (Option.some.inj q).symm⟩
        · obtain ⟨h', g2, d', tk', os'⟩ := s'
          obtain rfl : g2 = s.gens := mv.gens
          obtain rfl : d' = s.drawn := mv.drawn
          obtain rfl : os' = s.os := mv.os
          rw [hisz] at g'
          exact wpAny_pure (wpAny_pure ⟨rfl, h', tk', L, es, ep, t, rfl, hS', g', old'⟩)
      · cases r₂ with
        | error e => exact hr₂
        | ok fl₂ =>
          cases fl₂ with
          | ret r =>
            obtain ⟨rfl, h', tk, L, es, ep, t, rfl, z1, z2, z3⟩ := hr₂
            repeat (any_goals (first | assumption | wp_step))
            exact h _ _ _ _ _ _ z1 z2 z3
          | _ => exact hr₂.elim
    | _ => exact hr.elim
end
end PLS
namespace L2
open PySem PySem.Spec PyProof.Rows SrtO
/-- the heap behind the collecting of a row of values -/
def colH (h : Heap) (vs : List Value) : Heap := (h.push (seqObj "list" #[] 0)).update h.objs.size (Obj.mapSeq (· ++ vs.toArray))
theorem colH_size (h : Heap) (vs : List Value) : (colH h vs).objs.size = h.objs.size + 1 := by unfold colH; rw [Heap.size_update, size_push']
theorem colH_old {h : Heap} {vs : List Value} {b : Addr} {o : Obj} (e : h.get? b = some o) : (colH h vs).get? b = some o := by
  unfold colH; rw [Heap.get?_update_ne _ _ _ _ (Nat.ne_of_lt (Heap.lt_size e))]; exact Heap.get?_push_of_some _ e
theorem collect_tup {prog : Program} {w : World} {A : Around} {E : Value → Shared → Prop} {s : Shared} {l : Addr} {vs : List Value} {o : Obj} {n : Nat} {Q : List Value → Shared → Prop} (ho : s.heap.get? l = some o) (hc : o.cls = .type "tuple") (hd : o.data = .seq vs.toArray n)
    (h : Q vs { s with heap := colH s.heap vs }) (hsz : vs.length ≤ sizeLine) : wpAny (model prog w) A (collect (.ref l)) Q E s := by
  unfold collect; refine wpAny_bind (wpAny_runValue (codeAny_builtin entry_proto_collect' ?_))
  show wpAny _ _ (newList [] >>= fun x => again (.builtin "list.__iadd__" ⟨[x, .ref l], []⟩)) _ _ s
  refine wpAny_bind (wpAny_newList (wpAny_pure ⟨Code.quiet_builtin _ (by decide +kernel), codeAny_builtin entry_list_iadd' (?_ : wpAny _ _ (Builtin.List.listExtendWith (.ref s.heap.objs.size) (.ref l) (.ref s.heap.objs.size)) _ _ { s with heap := s.heap.push (seqObj "list" #[] 0) })⟩))
  have at1 : (s.heap.push (seqObj "list" #[] 0)).get? l = some o := Heap.get?_push_of_some _ ho
  have at2 : (s.heap.push (seqObj "list" #[] 0)).get? s.heap.objs.size = some (seqObj "list" #[] 0) := Heap.get?_push_size _ rfl
  unfold Builtin.List.listExtendWith; refine wpAny_bind (wpAny_typeOf (T := "tuple") ⟨o, at1, hc⟩ ?_)
  have ht : (Value.type "tuple" == Value.type "tuple") = true := by rfl
  rw [if_pos (by rw [ht]; simp)]; refine wpAny_bind (listItems_at at1 hd (wpAny_bind (listItems_at at2 rfl ?_)))
  rw [if_neg (by simp)]; refine wpAny_bind (listUpdate_at at2 rfl (wpAny_pure ?_) (Nat.zero_le _) (by show (#[] ++ vs.toArray).size ≤ sizeLine + 1; simp only [Array.size_append, List.size_toArray, List.length_nil]; omega))
  show wpAny (model prog w) A (load s.heap.objs.size >>= fun o => match o.data with
      | .seq xs _ => pure xs.toList
      | _ => unsupported "internal:collect") Q E { s with heap := colH s.heap vs }
  refine wpAny_bind (wpAny_load (get?_update_seq at2 _) ?_); show wpAny _ _ (pure ((#[] : Array Value) ++ vs.toArray).toList) Q E _
  have e : ((#[] : Array Value) ++ vs.toArray).toList = vs := by simp
  rw [e]; exact wpAny_pure h
section
variable {X : Cx}
/-- sorted(a tuple of ints) -/
def rSortedIT (K : PySem.W.Frag) : List V → Hp → VK → Prop := fun vs H Q => ∃ (a : Addr) (ns : List Int), vs = [V.ref a] ∧ SqT K H a (ns.map V.int) ∧ ∀ (ns' : List Int) (p : Addr), ns'.Perm ns → ns'.Pairwise (· ≤ ·) → H p = none → Q (.ref p) (upd H p (.lst (ns'.map V.int)))
theorem cr_sortedIT : CallR X (.builtin "sorted") (rSortedIT X.K) := by
  intro pins s σ H vs us Q I r hq
  obtain ⟨a, ns, rfl, hs, q⟩ := hq
  obtain ⟨its, rv, ⟨o, ho, hc, n, hd⟩, hz⟩ := I.tuple hs
  have hi := rv.ints
  have hz' : its.length ≤ sizeLine := by rw [← rv.length]; exact hz
  rw [Vals.ref1 r]
  refine Calls.call_function_entry kind_sorted plain_sorted entry_sorted (args_sorted1 _) ?_
  unfold Builtin.«sorted»
  refine wpAny_bind (m := checkCount "sorted" 1 1 _) (wpAny_pure ?_)
  refine wpAny_bind (collect_tup ho hc hd ?_ hz')
  generalize e1 : colH s.heap its = h1
  have k1 : ∀ b x, s.heap.get? b = some x → h1.get? b = some x := fun b x e => by rw [← e1]; exact colH_old e
  have hsz : s.heap.objs.size ≤ h1.objs.size := by rw [← e1, colH_size]; omega
  refine wpAny_bind (wpAny_newList ?_ hz')
  have at1 : (h1.push (seqObj "list" its.toArray 0)).get? h1.objs.size = some (seqObj "list" its.toArray 0) := Heap.get?_push_size _ rfl
  have kk : ∀ b x, s.heap.get? b = some x → (h1.push (seqObj "list" its.toArray 0)).get? b = some x := fun b x e => Heap.get?_push_of_some _ (k1 b x e)
  show wpAny _ _ _ _ _ { s with heap := h1.push (seqObj "list" its.toArray 0) }
  refine wpAny_bind (wpAny_holding (wpAny_call_entry slot_list_sort ⟨_, at1, rfl⟩ entry_list_sort (list_sort_ord swo_int at1 hz' (fun h2 => ints_sortable hi h2) fun out g1 g2 => ⟨_, rfl, wpAny_pure ⟨_, rfl, ?_⟩⟩) (args_list_sort _)))
  obtain ⟨x1, x2, x3⟩ := ints_out hi g1 g2
  obtain ⟨ep, he⟩ := sortedHeap_at (vs := its) (n := 0) (out := out.toArray) at1
  have hlen : ((out.map iv).map V.int).length ≤ sizeLine := by
    have e := x2.length_eq
    rw [List.length_map] at hz ⊢
    rw [e]; exact hz
  refine ⟨.ref h1.objs.size, upd H h1.objs.size (.lst ((out.map iv).map V.int)), I.laid (t' := s.toks) (fun b x e => ?_) hsz ⟨hlen, out, ep, vals_of_ints x1, he⟩, rfl, q _ _ x2 x3 (I.hok.fresh hsz)⟩
  have hb := Heap.lt_size (k1 b x e)
  rw [sortedHeap_old (Nat.ne_of_lt hb) (Heap.lt_size (kk b x e))]
  exact kk b x e
end
end L2
namespace PL
open PySem L2
/-- sorted(a tuple of ints) -/
theorem l_sortedIT {X : Cx} {M : MS} {σ : St} {G : Hp} {a : Expr} {p pos : Pos} {P : List Int → Prop} {ns : List Int} (hm : X.mg "sorted" = none) (h : ED X M a σ G (.tuple (ns.map .int))) (hp : ∀ ns', ns'.Perm ns → ns'.Pairwise (· ≤ ·) → P ns') (hg : Gl X "sorted" := by rfl) (na : starEach [a] X.env = (false, eval a X.env) :: starEach [] X.env := by exact star_one rfl) : EL X M (.Call (.Name "sorted" p) [a] [] pos) σ G (fun ds => ∃ ns', ds = ns'.map .int ∧ P ns') := fun G1 H1 y w Q q =>
  toE (pe_callB cr_sortedIT hg hm (by decide +kernel) (paR [a]) (by decide) (by decide) na) ((a_cons h a_nil na) G1 H1 y w _ fun vs ds' G2 H2 s hvs e => by
    subst e
    obtain ⟨v, rfl, hd⟩ := dps1 hvs
    obtain ⟨p', xs, rfl, h1, h2⟩ := dp_tup hd
    have e := dps_ints h2; subst e
    exact ⟨p', ns, rfl, s.wd.gh.sqt h1, fun ns' l pe so hl => q l _ _ G2 _ (s.trans (.laidN s.wd hl)) (s.back hl) (s.wd.gh.back hl) upd_same (dps_of_ints ns') ⟨ns', rfl, hp ns' pe so⟩⟩)
theorem DU.ne {κ : Type} {X : Cx} {enc : κ → D} {G H : Hp} {d : Addr} {m : List (κ × D)} (h : DU X enc G H d m) : H d ≠ none := by obtain ⟨L, e, _⟩ := h; exact some_ne e
/-- d[k] = v -/
theorem s_dput {κ : Type} [DecidableEq κ] {X : Cx} {σ : St} {G H : Hp} {D0 : Ends} {enc : κ → D} {d : Addr} {m : List (κ × D)} {k : κ} {vx : D} {o i e : Expr} {spos pos : Pos} (ok : EncOk enc) (hu : X.A.units + 64 < cLine) (et : ∀ k, ∃ xs, enc k = .tuple xs) (w : Wd M0 G H) (du : DU X enc G H d m) (hv : ED X M0 e σ G vx) (ho : ∀ H1 (Q : VK), Q (.ref d) H1 → rdE X o σ H1 Q) (hi : ED X M0 i σ G (enc k)) (hl : m.length < 100000) (g : G d = none)
    (kk : ∀ G2 H2 L', Stp M0 G H G2 H2 → G2 d = none → DU X enc G2 (upd H2 d (NDO X.prog X.w d L')) d (putD m k vx) → D0.nx σ (upd H2 d (NDO X.prog X.w d L')))
    (ha : ∀ v, assign (.Subscript o i spos) X.env v = (do
      let ov ← holding [v] (eval o X.env)
      let iv ← holding [v, ov] (eval i X.env)
      standAt spos
      holding [v, ov, iv] (setItem ov iv v)
      release [v, ov, iv] []) := by intro _; rfl)
    (hs : swapsWithSole [.Subscript o i spos] e pos.line X.env = pure false := by exact sw_noS rfl) (hw : swappedStores [.Subscript o i spos] e X.env = pure none := by rfl)
    (h1 : (assignEach [.Subscript o i spos] X.env).map (·.2) = [assign (.Subscript o i spos) X.env] := by rfl) : rdS X (.Assign [.Subscript o i spos] e pos) D0 σ H :=
  s_sub (set_nd hu) (hv G H (Ex.refl _) w _ fun v G1 H1 s1 hv1 => ho _ _ (hi G1 H1 s1.gg s1.wd _ fun iv G2 H2 s2 hiv => by
    have du2 := (du.step s1 (fun z => z)).step s2 (fun z => z)
    have g2 := s2.none (du.step s1 (fun z => z)).ne (s1.none du.ne g)
    exact DU.set ok du2 s2.wd.gh et hiv (s2.gg.dp hv1) hl (fun L' dn => kk G2 H2 L' (s1.trans s2) g2 dn))) ha hs hw h1
section
variable {X : Cx} {M : MS} {σ : St} {G H : Hp} {D0 : Ends}
/-- l[i], the list at l not known: what stands there is known -/
theorem x_ixU {a b : Expr} {pos : Pos} {l : Addr} {vs : List V} {ds : List D} {i : Int} {d : D} {Q : VK} (w : Wd M G H) (ho : ∀ H1 (Q : VK), Q (.ref l) H1 → rdE X a σ H1 Q) (hl : H l = some (.lst vs)) (nm : ¬ M.m l) (hd : DpAll X.K G vs ds) (hi : ED X M b σ G (.int i)) (he : atI ds i = some d) (q : ∀ v G2 H2, Stp M G H G2 H2 → Dp X.K G2 v d → Q v H2) (hs : PlainIx b := by exact fun _ _ => rfl) : rdE X (.Subscript a b pos) σ H Q :=
  toE (pe_ix ix_list (peR a) (peR b) hs) (ho _ _ (hi G H (Ex.refl _) w _ fun u G2 H2 s hu => by
    cases hu
    obtain ⟨v, e1, e2⟩ := dps_atI hd he
    exact ⟨l, vs, i, v, rfl, rfl, .inl (.inl (s.hh l _ nm hl)), e1, q v G2 H2 s (s.gg.dp e2)⟩))
/-- a, b = e, by the reading -/
theorem s_unpackE {e : Expr} {a b : Str} {ap bp tpos pos : Pos} {k : Nat} (i j : Nat) {d1 d2 : D} (he : ∀ Q : VK, (∀ v G1 H1, Stp M G H G1 H1 → Dp X.K G1 v (.tuple [d1, d2]) → Q v H1) → rdE X e σ H Q) (hc : X.calm = true) (hN : X.N.Nodup)
    (kk : ∀ v1 v2 G1 H1, Stp M G H G1 H1 → Dp X.K G1 v1 d1 → Dp X.K G1 v2 d2 → D0.nx ((σ.set i (some v1)).set j (some v2)) H1)
    (hi : X.N[i]? = some a := by rfl) (hj : X.N[j]? = some b := by rfl) (la : Loc X.env.scope a := by first | exact Or.inl rfl | exact Or.inr rfl) (lb : Loc X.env.scope b := by first | exact Or.inl rfl | exact Or.inr rfl)
    (fa : X.fn a = true ∨ X.env.scope.names.lookup a = some .local := by first | exact .inl rfl | exact .inr rfl) (fb : X.fn b = true ∨ X.env.scope.names.lookup b = some .local := by first | exact .inl rfl | exact .inr rfl)
    (hn : (assignEach [.Name a ap, .Name b bp] X.env).length = 2 := by rfl) (hst : (assignEach [.Name a ap, .Name b bp] X.env).findIdx? (·.1) = none := by rfl)
    (h1 : (assignEach [.Name a ap, .Name b bp] X.env).map (·.2) = assign (.Name a ap) X.env :: (assignEach [.Name b bp] X.env).map (·.2) := by rfl) (h2 : (assignEach [.Name b bp] X.env).map (·.2) = assign (.Name b bp) X.env :: (assignEach [] X.env).map (·.2) := by rfl)
    (hs : swapsWithSole [.Tuple [.Name a ap, .Name b bp] k tpos] e pos.line X.env = pure false := by exact sw_noS rfl) (hw : swappedStores [.Tuple [.Name a ap, .Name b bp] k tpos] e X.env = pure none := by rfl)
    (h3 : (assignEach [.Tuple [.Name a ap, .Name b bp] k tpos] X.env).map (·.2) = [assign (.Tuple [.Name a ap, .Name b bp] k tpos) X.env] := by rfl) : rdS X (.Assign [.Tuple [.Name a ap, .Name b bp] k tpos] e pos) D0 σ H :=
  toS (ps_asg (peR e) (pg_2 i j hc hN hi hj la lb fa fb hn hst h1 h2) hs hw h3) (he _ fun v G1 H1 s hv => g_tup2 hv s.wd.gh fun v1 v2 e1 e2 => kk v1 v2 G1 H1 s e1 e2)
end
end PL
namespace PLS
open PySem PySem.SeqAt PySem.W PyProof.Rows
def fullD : PyData → Bool
  | .tuple (_ :: _) => true
  | _ => false
section
variable {prog : Program} {w : World} {A : Around} {E : Value → Shared → Prop} {s : Shared}
/-- two tuples, as the sort for keys of one type compares them -/
theorem one_tup {xs ys : List PyData} {a b : Value} {as bs : List Addr} {Q : Bool → Shared → Prop} (ra : Reads s.heap a (.tuple xs) as) (rb : Reads s.heap b (.tuple ys) bs) (h : alike (.tuple xs) (.tuple ys) = true) (hu : A.units + min (PyData.tuple xs).depth (PyData.tuple ys).depth < cLine)
    (q : Q (dataLt (.tuple xs) (.tuple ys)) s) : wpAny (model prog w) A (oneLt' true a b) Q E s := by
  have hal : alikeAll xs ys = true := by simpa [alike] using h
  cases ra with
  | @tuple l o vs n _ as₁ h1 h2 h3 h4 => cases rb with
    | @tuple l' o' vs' n' _ bs₁ k1 k2 k3 k4 =>
      have z1 : vs.size = xs.length := by simpa using ReadsAll.length _ _ _ h4
      have z2 : vs'.size = ys.length := by simpa using ReadsAll.length _ _ _ k4
      rw [dataLt_tuple, ← firstLt_toks xs ys hal, ← z1, ← z2] at q
      obtain ⟨oc, od, odat, osl⟩ := o
      obtain ⟨oc', od', odat', osl'⟩ := o'
      simp only at h2 h3 k2 k3
      subst h2 h3 k2 k3
      rw [oneLt'_eq]; simp only [if_true]
      refine wpAny_bind (wpAny_cRoomFor (room_here hu) (wpAny_bind (wpAny_callSpecialIfBound?_slot (T := "tuple") ⟨_, h1, rfl⟩ F.slot_tuple_lt (call_meets F.slot_tuple_lt ⟨_, h1, rfl⟩ F.entry_tuple_lt (F.args_tuple_lt_2 _ _) (tuple_ltAt _ _ vs vs' n n' _ _ _ _ (pairEq xs ys) (fun j => dataLt (xs.getD j .none) (ys.getD j .none))) ⟨h1, k1, fun j j1 j2 => ?_, fun j j1 j2 hj => ?_, wpAny_truthy_bool q⟩))))
      · have z := eqAt_alikeAll xs ys A.in1 s vs.toList vs'.toList _ _ h4 k4 hal (room_in hu) j (by simpa using j1) (by simpa using j2); simpa using z
      · have z := rcLt_alikeAll xs ys A.in1 s vs.toList vs'.toList _ _ h4 k4 hal (room_in hu) j (by simpa using j1) (by simpa using j2) hj; simpa using z
theorem firsts_of : ∀ {vs : List Value} {ds : List PyData}, EachIs (fun v d => ∃ as, Reads s.heap v d as) vs ds → (∀ d ∈ ds, ∃ xs, d = .tuple xs) →
    ∃ fs : List (Option Value), (∀ (E : Value → Shared → Prop) (Q : List (Option Value) → Shared → Prop), Q fs s → wpAny (model prog w) A (vs.mapM firstOfTuple') Q E s) ∧ fs.map (·.isSome) = ds.map fullD
  | _, _, .nil, _ => ⟨[], fun E Q q => by rw [List.mapM_nil]; exact wpAny_pure q, rfl⟩
  | _, _, .cons (a := v) (b := d) (as := vs) (bs := ds) ⟨as, r⟩ t, h => by
    obtain ⟨fs, f1, f2⟩ := firsts_of t fun d hd => h d (List.mem_cons_of_mem _ hd)
    obtain ⟨xs, rfl⟩ := h d List.mem_cons_self
    cases r with
    | @tuple l o its n _ _ h1 h2 h3 h4 =>
      refine ⟨its[0]? :: fs, fun E Q q => ?_, ?_⟩
      · rw [List.mapM_cons]
        refine wpAny_bind ?_
        rw [kas_first_eq]
        refine wpAny_bind (wpAny_typeOf (T := "tuple") ⟨o, h1, h2⟩ ?_)
        rw [if_neg (by decide)]
        exact wpAny_bind (listItems_at h1 h3 (wpAny_pure (wpAny_bind (f1 E _ (wpAny_pure q)))))
      · rw [List.map_cons, List.map_cons, f2]
        congr 1
        have z : its.toList.length = xs.length := ReadsAll.length _ _ _ h4
        cases xs with
        | nil =>
          have : its.size = 0 := by simpa using z
          show (its[0]?).isSome = false
          simp [this]
        | cons x xs =>
          have : 0 < its.size := by rw [← Array.length_toList, z]; simp
          show (its[0]?).isSome = true
          simp [this]
/-- tuples of any lengths that are alike can be sorted -/
theorem sorts_tups {vs : List Value} {ds : List PyData} (e : EachIs (fun v d => ∃ as, Reads s.heap v d as) vs ds) (hal : AllAlike ds) (ht : ∀ d ∈ ds, ∃ xs, d = .tuple xs) (hu : ∀ d, d ∈ ds → A.units + d.depth < cLine) : SortsAt prog w A s (dataKind s.heap ds) vs := by
  by_cases hf : ∀ d ∈ ds, fullD d = true
  · refine SortsAt.data e hal (.inl fun d hd => ?_) hu
    obtain ⟨xs, rfl⟩ := ht d hd
    cases xs with
    | nil => exact absurd (hf _ hd) (by decide)
    | cons x r => exact ⟨x, r, rfl⟩
  · have room : ∀ {d d' : PyData}, d ∈ ds → A.units + min d.depth d'.depth < cLine := fun {d d'} hd => Nat.lt_of_le_of_lt (Nat.add_le_add_left (Nat.min_le_left _ _) _) (hu d hd)
    obtain ⟨fs, f1, f2⟩ := firsts_of (prog := prog) (w := w) (A := A) e ht
    have notall : ¬ fs.toArray.all (·.isSome) = true := by
      intro z
      apply hf
      intro d hd
      have z1 : ∀ x ∈ fs.map (·.isSome), x = true := by
        intro x hx
        obtain ⟨y, hy, rfl⟩ := List.mem_map.mp hx
        have := List.all_eq_true.mp (by simpa using z) y hy
        simpa using this
      exact z1 _ (by rw [f2]; exact List.mem_map.mpr ⟨d, hd, rfl⟩)
    have keys : ∀ v, v ∈ vs → ∃ a, (dataKind s.heap ds).keyOf v = some a := fun v hv => by
      obtain ⟨d, hd, as, r⟩ := e.left v hv
      exact ⟨_, dataKind_some hal hd r⟩
    have lt : ∀ (f : Bool) (E : Value → Shared → Prop) (x y : Value) (a b : (dataKind s.heap ds).α) {Q : Bool → Shared → Prop}, (dataKind s.heap ds).keyOf x = some a → (dataKind s.heap ds).keyOf y = some b → Q ((dataKind s.heap ds).blt a b) s → wpAny (model prog w) A (oneLt' f x y) Q E s := by
      intro f E x y a b Q ha hb q
      obtain ⟨d, as, hd, ra, rfl⟩ := dataKind_inv ha
      obtain ⟨d', as', hd', rb, rfl⟩ := dataKind_inv hb
      obtain ⟨xs, rfl⟩ := ht d hd
      obtain ⟨ys, rfl⟩ := ht d' hd'
      have hh := hal _ hd _ hd'
      cases f with
      | false => exact oneLt_alike (fun z => nomatch z) ra rb hh (fun z => nomatch z) (room hd) q
      | true => exact one_tup ra rb hh (room hd) q
    by_cases h0 : ((fs.toArray[0]?).bind id).isSome = true
    · refine ⟨keys, general', fun E x y a b Q ha hb q => lt false E x y a b ha hb q, fun _ E Q q => ?_⟩
      rw [keyKind'_eq, List.mapM_toArray, map_eq_pure_bind]
      refine wpAny_bind (wpAny_bind (f1 E _ (wpAny_pure ?_)))
      rw [if_neg notall, if_pos h0]
      exact wpAny_pure q
    · refine ⟨keys, oneType', fun E x y a b Q ha hb q => lt true E x y a b ha hb q, fun h2 E Q q => ?_⟩
      rw [keyKind'_eq, List.mapM_toArray, map_eq_pure_bind]
      refine wpAny_bind (wpAny_bind (f1 E _ (wpAny_pure ?_)))
      rw [if_neg notall, if_neg h0, oneTypeOnly'_eq, List.mapM_toArray, map_eq_pure_bind]
      refine wpAny_bind (wpAny_bind (wpAny_bind (kas_mapM (r := Value.type "tuple") _ (fun v hv Q' q' => ?_) (wpAny_pure ?_))))
      · obtain ⟨d, hd, as, r⟩ := e.left v hv
        obtain ⟨xs, rfl⟩ := ht d hd
        cases r with
        | @tuple l o its n _ _ h1 h2 h3 h4 => exact wpAny_typeOf (T := "tuple") ⟨o, h1, h2⟩ q'
      · obtain ⟨v1, rest, rfl⟩ : ∃ v1 rest, vs = v1 :: rest := by
          cases vs with
          | nil => simp at h2
          | cons a l => exact ⟨a, l, rfl⟩
        have z0 : ((v1 :: rest).map fun _ => Value.type "tuple").toArray[0]? = some (Value.type "tuple") := by simp
        have za : (((v1 :: rest).map fun _ => Value.type "tuple").toArray.all fun x => x == Value.type "tuple") = true := by
          simp only [List.all_toArray, List.all_map, List.all_eq_true]
          intro _ _; rfl
        rw [z0]; simp only [za, if_true]
        exact wpAny_pure (wpAny_pure q)
end
end PLS
namespace PLS
open PySem L2 PL
/-- data that may be an element: tuples of ints, nested -/
def elD (d : PyData) : Prop := keyOk d = true ∧ numK (kn d) = true ∧ (kn d).depth ≤ 8 ∧ ∃ xs, d = .tuple xs
/-- the set's own object at a, its elements stand elsewhere -/
def NSet0 (P : Program) (w : World) (a : Addr) (L : Els) (h : Heap) : Prop := ∃ (es : Array (Int × Value)) (ep : Nat) (t : SetTable), (∃ o, h.get? a = some o ∧ o.ExactSet ∧ o.data = .set es ep t) ∧ es.toList = rws w L ∧ TabOk t (hss w L) ∧ (L.map (·.2)).Nodup ∧ t.plain = true ∧ (w.params.followText "set-order" = true ∨ t.led = true) ∧ L.length * 5 < t.mask * 3 ∧ L.length < 77
def NSetO (P : Program) (w : World) (a : Addr) (L : Els) : HO := .ext fun h => NSet0 P w a L h
theorem nsetO_ok {P : Program} {w : World} {H : Hp} {h : Heap} {a : Addr} {L : Els} {es : Array (Int × Value)} {ep : Nat} {t : SetTable} (R : NSet P w h a L es ep t) : ObjOk P w H h a (NSetO P w a L) :=
  ⟨⟨es, ep, t, R.obj, R.rows, R.tab, R.nd, R.plain, R.led, R.room, R.few⟩, let ⟨o, e, _⟩ := R.obj; ⟨o, e⟩, fun h1 h2 ⟨es, ep, t, ⟨o, e, z⟩, r⟩ k => ⟨es, ep, t, ⟨o, k o e, z⟩, r⟩⟩
/-- the elements' data at their places -/
def ElsAt (K : PySem.W.Frag) (H : Hp) (L : Els) : Prop := ∀ p ∈ L, ∃ d, Dp K H (.ref p.1) d ∧ elD d ∧ kn d = p.2
section
variable {X : Cx} {pins : List (Addr × Obj)} {σ : St} {H : Hp} {s : Shared} {L : Els} {a : Addr}
theorem at_of (I : Inv X pins σ H s) {b : Addr} {d : PyData} (h : Dp X.K H (.ref b) d) (e : elD d) : At X.prog X.w s.heap (kn d) b := ⟨⟨dp_nested I d _ _ e.1 h rfl, e.2.2.1⟩, e.2.1⟩
theorem Inv.nset (I : Inv X pins σ H s) (h : H a = some (NSetO X.prog X.w a L)) (he : ElsAt X.K H L) : ∃ es ep t, NSet X.prog X.w s.heap a L es ep t := by
  obtain ⟨⟨es, ep, t, ho, r1, r2, r3, r4, r5, r6, r7⟩, _⟩ := I.hok a _ h
  refine ⟨es, ep, t, ho, r1, r2, r3, fun p hp => ?_, r4, r5, r6, r7⟩
  obtain ⟨d, h1, h2, h3⟩ := he p hp
  rw [← h3]
  exact at_of I h1 h2
/-- set(a list of such data) -/
def rSetN (X : Cx) : List V → Hp → VK → Prop := fun xs H Q => ∃ l vs ds, xs = [.ref l] ∧ SqL X.K H l vs ∧ DpAll X.K H vs ds ∧ (∀ d ∈ ds, elD d) ∧ (∃ m : List NestedKey, m.length < 77 ∧ ∀ d ∈ ds, kn d ∈ m) ∧
  ∀ a L, H a = none → (∀ p ∈ L, ∃ d, (V.ref p.1, d) ∈ vs.zip ds ∧ kn d = p.2) → (∀ d ∈ ds, kn d ∈ L.map (·.2)) → (L.map (·.2)).Nodup → Q (.ref a) (upd H a (NSetO X.prog X.w a L))
theorem els_of {K : PySem.W.Frag} : ∀ {vs : List V} {us : List Value} {ds : List PyData}, DpAll K H vs ds → Vals vs us → (∀ d ∈ ds, elD d) → ∃ ks : Els, us = ks.map (fun p => Value.ref p.1) ∧ (∀ p ∈ ks, ∃ d, (V.ref p.1, d) ∈ vs.zip ds ∧ kn d = p.2) ∧ ∀ d ∈ ds, kn d ∈ ks.map (·.2)
  | _, _, _, .nil, .nil, _ => ⟨[], rfl, fun p h => (by cases h), fun d h => (by cases h)⟩
  | _, _, _, .cons (d := d) h t, .cons r1 r2, he => by
    obtain ⟨ks, e1, e2, e3⟩ := els_of t r2 fun d hd => he d (List.mem_cons_of_mem _ hd)
    obtain ⟨xs, rfl⟩ := (he _ List.mem_cons_self).2.2.2
    obtain ⟨b, ys, rfl, _, _⟩ := dp_tup h
    cases r1
    refine ⟨(b, kn (.tuple xs)) :: ks, by rw [List.map_cons, e1], fun p hp => ?_, fun d hd => ?_⟩
    · rw [List.zip_cons_cons]
      rcases List.mem_cons.mp hp with rfl | hp
      · exact ⟨_, List.mem_cons_self, rfl⟩
      · obtain ⟨d, hd, z⟩ := e2 p hp
        exact ⟨d, List.mem_cons_of_mem _ hd, z⟩
    · rcases List.mem_cons.mp hd with rfl | hd
      · exact List.mem_cons_self
      · exact List.mem_cons_of_mem _ (e3 d hd)
theorem cr_setN (hc : X.calm = true) (hu : X.A.units + 64 < cLine) : CallR X (.type "set") (rSetN X) := by
  intro pins s σ H xs us Q I r h
  obtain ⟨l, vs, ds, rfl, hl, hd, he, ⟨m, hm1, hm2⟩, q⟩ := h
  rw [Vals.ref1 r]
  obtain ⟨its, rv, pl, hz⟩ := I.list hl
  obtain ⟨ks, e1, e2, e3⟩ := els_of hd rv he
  have hat : ∀ p ∈ ks, At X.prog X.w s.heap p.2 p.1 := fun p hp => by
    obtain ⟨d, hin, z2⟩ := e2 p hp
    rw [← z2]; exact at_of I (dps_mem hd _ hin) (he d (List.of_mem_zip hin).2)
  refine call_set ks (I.ok.hd hc) pl.isList (by rw [← e1]) hat ⟨m, hm1, fun p hp => ?_⟩ (by omega) fun h' tk L es ep t R g k => ?_
  · obtain ⟨d, hin, z2⟩ := e2 p hp
    rw [← z2]; exact hm2 d (List.of_mem_zip hin).2
  · refine ⟨.ref s.heap.objs.size, upd H s.heap.objs.size (NSetO X.prog X.w s.heap.objs.size L), I.laid (t' := tk) k (Nat.le_refl _) (nsetO_ok R), rfl, q _ L (I.hok.fresh (Nat.le_refl _)) (fun p hp => e2 p (List.mem_of_mem_take (g.sub p hp))) (fun d hd => ?_) R.nd⟩
    obtain ⟨p, hp, e⟩ := List.mem_map.mp (e3 d hd)
    rw [← e]
    exact g.all p (by rw [List.take_length]; exact hp)
end
end PLS
namespace PLS
open PySem L2 PL PyProof.Rows
/-- what sorting asks of data: one sort of tuples, or none is a tuple -/
structure SrtD (ds : List PyData) : Prop where
  al : PySem.W.AllAlike ds
  kd : PySem.W.Sortable ds ∨ ∀ d ∈ ds, ∃ xs, d = .tuple xs
theorem SrtD.at {P : Program} {w : World} {A : Around} {s : Shared} {vs : List Value} {ds : List PyData} (h : SrtD ds) (e : PySem.W.EachIs (fun v d => ∃ as, Reads s.heap v d as) vs ds) (hu : ∀ d, d ∈ ds → A.units + d.depth < cLine) : PySem.W.SortsAt P w A s (PySem.W.dataKind s.heap ds) vs := by
  rcases h.kd with z | z
  · exact PySem.W.SortsAt.data e h.al z hu
  · exact sorts_tups e h.al z hu
section
variable {P : Program} {w : World} {A : Around} {E : Value → Shared → Prop} {s : Shared} {β : Type} {enc : β → PyData} {R : Value → β → Prop}
/-- sorted(x), x what can be gathered into a list of values that stand for some items bs with G -/
theorem sorted_by {x : Addr} {G : List β → Prop} {Q : Value → Shared → Prop} (hcol : ∀ Q' : List Value → Shared → Prop, (∀ vs bs s1, (∀ b o, s.heap.get? b = some o → s1.heap.get? b = some o) → s.heap.objs.size ≤ s1.heap.objs.size → s1.gens = s.gens → s1.os = s.os → PySem.W.EachIs R vs bs → G bs → Q' vs s1) → wpAny (model P w) A.in1 (collect (.ref x)) Q' E s)
    (hr : ∀ (v : Value) (b : β) (h' : Heap), (∀ b o, s.heap.get? b = some o → h'.get? b = some o) → R v b → ∃ as, Reads h' v (enc b) as) (hG : ∀ bs, G bs → SrtD (bs.map enc) ∧ bs.length ≤ sizeLine ∧ ∀ b ∈ bs, A.units + 2 + (enc b).depth < cLine)
    (hQ : ∀ bs out s' p c, G bs → PySem.W.EachIs R out (bs.mergeSort (PySem.W.dataLe false enc)) → (∀ b o, s.heap.get? b = some o → s'.heap.get? b = some o) → s'.gens = s.gens → s'.os = s.os → s.heap.objs.size ≤ p → s'.heap.get? p = some (seqObj "list" out.toArray c) → Q (.ref p) s') :
    wpAny (model P w) A (call (.builtin "sorted") [.ref x]) Q E s := by
  refine Calls.call_function_entry kind_sorted plain_sorted entry_sorted (args_sorted1 _) ?_
  unfold Builtin.«sorted»
  refine wpAny_bind (m := checkCount "sorted" 1 1 _) (wpAny_pure (wpAny_bind (hcol _ fun vs bs s1 k1 hz g1 o1 e g => ?_)))
  obtain ⟨sd, hL, hu⟩ := hG bs g
  have hlen : vs.length ≤ sizeLine := by rw [e.length]; exact hL
  refine wpAny_bind (wpAny_newList ?_ hlen)
  have at1 : (s1.heap.push (seqObj "list" vs.toArray 0)).get? s1.heap.objs.size = some (seqObj "list" vs.toArray 0) := Heap.get?_push_size _ rfl
  have k2 : ∀ b o, s1.heap.get? b = some o → (PySem.W.sortingHeap (s1.heap.push (seqObj "list" vs.toArray 0)) s1.heap.objs.size vs).get? b = some o := fun b o q => PySem.W.sortingHeap_old (Nat.ne_of_lt (Heap.lt_size q)) (Heap.get?_push_of_some _ q)
  have er : PySem.W.EachIs (fun v b => ∃ as, Reads (PySem.W.sortingHeap (s1.heap.push (seqObj "list" vs.toArray 0)) s1.heap.objs.size vs) v (enc b) as) vs bs := e.mono fun v b q => hr v b _ (fun c o z => k2 c o (k1 c o z)) q
  have S := SrtD.at (P := P) (w := w) (A := A.in1.in1) (s := { s1 with heap := PySem.W.sortingHeap (s1.heap.push (seqObj "list" vs.toArray 0)) s1.heap.objs.size vs }) sd (PySem.W.each_map (R := fun v d => ∃ as, Reads (PySem.W.sortingHeap (s1.heap.push (seqObj "list" vs.toArray 0)) s1.heap.objs.size vs) v d as) enc er) (fun d hd => by
    obtain ⟨b, hb, rfl⟩ := List.mem_map.mp hd
    have := hu b hb
    simp only [Around.in1_units]; omega)
  have out := PySem.W.sortVals_data (R := R) false e er sd.al
  refine wpAny_bind (wpAny_holding (wpAny_call_entry slot_list_sort ⟨_, at1, rfl⟩ entry_list_sort (PySem.W.list_sort_vals (s := { s1 with heap := s1.heap.push (seqObj "list" vs.toArray 0) }) at1 S hlen ⟨_, rfl, wpAny_pure ⟨_, rfl, ?_⟩⟩) (args_list_sort _)))
  obtain ⟨c, hc⟩ := sortedHeap_at (vs := vs) (n := 0) (out := (PySem.W.sortVals (PySem.W.dataKind (PySem.W.sortingHeap (s1.heap.push (seqObj "list" vs.toArray 0)) s1.heap.objs.size vs) (bs.map enc)) false vs vs).toArray) at1
  refine hQ bs _ _ s1.heap.objs.size c g out (fun b o q => ?_) g1 o1 hz hc
  have q1 := k1 b o q
  have lt := Heap.lt_size q1
  show (sortedHeap (s1.heap.push (seqObj "list" vs.toArray 0)) s1.heap.objs.size vs _).get? b = some o
  rw [sortedHeap_old (Nat.ne_of_lt lt) (by rw [size_push']; exact Nat.lt_succ_of_lt lt)]
  exact Heap.get?_push_of_some _ q1
end
end PLS
namespace PLS
open PySem L2 PL
theorem perm_back {α β : Type} {f : α → β} : ∀ {l m : List β}, l.Perm m → ∀ xs : List α, m = xs.map f → ∃ ys : List α, ys.Perm xs ∧ l = ys.map f := by
  intro l m h
  induction h with
  | nil => intro xs e; exact ⟨xs, .refl _, e⟩
  | cons x _ ih =>
    intro xs e
    cases xs with
    | nil => cases e
    | cons y ys =>
      rw [List.map_cons] at e
      injection e with e1 e2
      obtain ⟨zs, p, q⟩ := ih ys e2
      exact ⟨y :: zs, p.cons y, by rw [List.map_cons, ← q, e1]⟩
  | swap x y l =>
    intro xs e
    match xs, e with
    | a :: b :: t, e =>
      rw [List.map_cons, List.map_cons] at e
      injection e with e1 e2
      injection e2 with e2 e3
      exact ⟨b :: a :: t, .swap _ _ _, by rw [List.map_cons, List.map_cons, ← e1, ← e2, ← e3]⟩
  | trans _ _ ih1 ih2 =>
    intro xs e
    obtain ⟨ys, p1, q1⟩ := ih2 xs e
    obtain ⟨zs, p2, q2⟩ := ih1 ys q1
    exact ⟨zs, p2.trans p1, q2⟩
section
variable {X : Cx} {pins : List (Addr × Obj)} {σ : St} {H : Hp} {s s' : Shared}
/-- a new list, the rest of the state turned as sorting turns it -/
theorem Inv.newlist (I : Inv X pins σ H s) {p : Addr} {vs : List V} {out : List Value} {c : Nat} (k : ∀ b o, s.heap.get? b = some o → s'.heap.get? b = some o) (hg : s'.gens = s.gens) (ho : s'.os = s.os) (hp : s.heap.objs.size ≤ p) (e : s'.heap.get? p = some (PyProof.Rows.seqObj "list" out.toArray c)) (r : Vals vs out) (hz : vs.length ≤ sizeLine) : Inv X pins σ (upd H p (.lst vs)) s' :=
  Inv.call' (ch := []) I ho (Un.laid k hp (I.hok.fresh hp)) (I.hok.laid k hp ⟨hz, out, c, r, e⟩) (by rw [hg]; exact I.bare) (fun _ z => nomatch z)
/-- a value and its data -/
abbrev RVD (K : PySem.W.Frag) (H : Hp) : Value → V × PyData → Prop := fun u b => RelV b.1 u ∧ Dp K H b.1 b.2
theorem rvd_reads (I : Inv X pins σ H s) (v : Value) (b : V × PyData) (h' : Heap) (k : ∀ c o, s.heap.get? c = some o → h'.get? c = some o) (h : RVD X.K H v b) : ∃ as, Reads h' v b.2 as := by
  obtain ⟨as, r⟩ := Dp.reads I b.2 b.1 v h.2 h.1
  exact ⟨as, PyProof.Rows.Reads.keeps (fun _ _ q => k _ _ q) r⟩
theorem rvd_vals {K : PySem.W.Frag} : ∀ {us : List Value} {bs : List (V × PyData)}, PySem.W.EachIs (RVD K H) us bs → Vals (bs.map (·.1)) us
  | _, _, .nil => .nil
  | _, _, .cons h t => .cons h.1 (rvd_vals t)
theorem rvd_zip {K : PySem.W.Frag} : ∀ {vs : List V} {us : List Value} {ds : List PyData}, Vals vs us → DpAll K H vs ds → PySem.W.EachIs (RVD K H) us (vs.zip ds)
  | _, _, _, .nil, .nil => .nil
  | _, _, _, .cons r t, .cons h k => .cons ⟨r, h⟩ (rvd_zip t k)
/-- sorted(a list of data), tuples of any lengths too -/
def rSortA (K : PySem.W.Frag) : List V → Hp → VK → Prop := fun xs H Q => ∃ a vs ds, xs = [.ref a] ∧ SqL K H a vs ∧ DpAll K H vs ds ∧ SrtD ds ∧ (∀ d ∈ ds, d.depth ≤ 32) ∧ ∀ p, H p = none → Q (.ref p) (upd H p (.lst (((vs.zip ds).mergeSort (PySem.W.dataLe false (·.2))).map (·.1))))
theorem cr_sortA (hu : X.A.units + 64 < cLine) : CallR X (.builtin "sorted") (rSortA X.K) := by
  intro pins s σ H vs us Q I r h
  obtain ⟨a, xs, ds, rfl, hs, hd, sd, hdep, q⟩ := h
  rw [Vals.ref1 r]
  obtain ⟨its, rv, hl, hz⟩ := I.list hs
  have hlen := dps_len hd
  have e2 : (xs.zip ds).map (·.2) = ds := zip_snd hlen
  have hzl : (xs.zip ds).length = xs.length := by rw [List.length_zip, hlen, Nat.min_self]
  refine sorted_by (enc := fun b : V × PyData => b.2) (R := RVD X.K H) (G := fun bs => bs = xs.zip ds) (fun Q' hq => PyProof.Rows.collect_list hl.isList (hq its (xs.zip ds) _ (fun b o e => colH_old e) (by show _ ≤ (colH s.heap its).objs.size; rw [colH_size]; omega) rfl rfl (rvd_zip rv hd) rfl) (by rw [← rv.length]; exact hz)) (fun v b h' k z => rvd_reads I v b h' k z) (fun bs e => ?_) fun bs out s' p c e each k hg ho hp hc => ?_
  · subst e
    refine ⟨by rw [e2]; exact sd, by rw [hzl]; exact hz, fun b hb => ?_⟩
    have := hdep _ (by rw [← e2]; exact List.mem_map.mpr ⟨b, hb, rfl⟩)
    omega
  · subst e
    have hv := rvd_vals each
    exact ⟨.ref p, _, Inv.newlist I k hg ho hp hc hv (by rw [List.length_map, (List.mergeSort_perm _ _).length_eq, hzl]; exact hz), rfl, q p (I.hok.fresh hp)⟩
/-- sorted(a set of data): bs are its elements in some order -/
def rSortN (X : Cx) : List V → Hp → VK → Prop := fun xs H Q => ∃ a L, ∃ ls : List (Addr × PyData), xs = [.ref a] ∧ H a = some (NSetO X.prog X.w a L) ∧ ls.map (fun p => (p.1, kn p.2)) = L ∧ (∀ p ∈ ls, Dp X.K H (.ref p.1) p.2 ∧ elD p.2) ∧ SrtD (ls.map (·.2)) ∧ (∀ p ∈ ls, p.2.depth ≤ 32) ∧
  ∀ p (bs : List (Addr × PyData)), bs.Perm ls → H p = none → Q (.ref p) (upd H p (.lst ((bs.mergeSort (PySem.W.dataLe false (·.2))).map fun b => V.ref b.1)))
theorem SrtD.perm {ds es : List PyData} (h : SrtD ds) (p : es.Perm ds) : SrtD es :=
  ⟨fun d hd d' hd' => h.al d (p.mem_iff.mp hd) d' (p.mem_iff.mp hd'), h.kd.imp (fun z => z.imp (fun y d hd => y d (p.mem_iff.mp hd)) fun y d hd => y d (p.mem_iff.mp hd)) fun z d hd => z d (p.mem_iff.mp hd)⟩
theorem rvd_refs {K : PySem.W.Frag} : ∀ {bs : List (Addr × PyData)}, (∀ p ∈ bs, Dp K H (.ref p.1) p.2) → PySem.W.EachIs (fun (u : Value) (b : Addr × PyData) => u = .ref b.1 ∧ Dp K H (.ref b.1) b.2) (bs.map fun p => Value.ref p.1) bs
  | [], _ => .nil
  | b :: bs, h => .cons ⟨rfl, h b List.mem_cons_self⟩ (rvd_refs fun p hp => h p (List.mem_cons_of_mem _ hp))
theorem refs_vals {K : PySem.W.Frag} : ∀ {us : List Value} {bs : List (Addr × PyData)}, PySem.W.EachIs (fun (u : Value) (b : Addr × PyData) => u = .ref b.1 ∧ Dp K H (.ref b.1) b.2) us bs → Vals (bs.map fun b => V.ref b.1) us
  | _, _, .nil => .nil
  | _, _, .cons h t => .cons (by rw [h.1]; rfl) (refs_vals t)
theorem cr_sortN (hc : X.calm = true) (hu : X.A.units + 64 < cLine) : CallR X (.builtin "sorted") (rSortN X) := by
  intro pins s σ H vs us Q I r h
  obtain ⟨a, L, ls, rfl, ha, hL, he, sd, hdep, q⟩ := h
  rw [Vals.ref1 r]
  obtain ⟨es, ep, t, R⟩ := Inv.nset I ha (fun p hp => by
    rw [← hL] at hp
    obtain ⟨x, hx, rfl⟩ := List.mem_map.mp hp
    exact ⟨x.2, (he x hx).1, (he x hx).2, rfl⟩)
  obtain ⟨o, ho, hex, hd⟩ := R.obj
  have hfew := R.few
  have hsz := R.size
  have hll : ls.length = L.length := by rw [← hL, List.length_map]
  have hes : es.toList.map (·.2) = ls.map fun p => Value.ref p.1 := by
    rw [R.rows, ← hL]
    show ((ls.map fun p => (p.1, kn p.2)).map fun p => (p.2.hash X.w, Value.ref p.1)).map (·.2) = _
    rw [List.map_map, List.map_map]; rfl
  refine sorted_by (enc := fun b : Addr × PyData => b.2) (R := fun (u : Value) (b : Addr × PyData) => u = .ref b.1 ∧ Dp X.K H (.ref b.1) b.2) (G := fun bs => bs.Perm ls) (fun Q' hq => collect_set (A := X.A.in1) (I.ok.hd hc) ⟨o, ho, hex.1, hd⟩ R.fit (by unfold scanBound; omega) R.tab.ris R.led fun s1 out k1 hz g1 o1 pm => ?_) (fun v b h' k z => ?_) (fun bs pm => ?_) fun bs out s' p c pm each k hg ho hp hc => ?_
  · rw [hes] at pm
    obtain ⟨bs, p1, e1⟩ := perm_back pm ls rfl
    subst e1
    exact hq _ bs s1 k1 hz g1 o1 (rvd_refs fun p hp => (he p (p1.mem_iff.mp hp)).1) p1
  · obtain ⟨as, z2⟩ := Dp.reads I b.2 (.ref b.1) v z.2 z.1
    exact ⟨as, PyProof.Rows.Reads.keeps (fun _ _ y => k _ _ y) z2⟩
  · refine ⟨sd.perm (pm.map (·.2)), by rw [pm.length_eq, hll, sizeLine_eq]; omega, fun b hb => ?_⟩
    have := hdep b (pm.mem_iff.mp hb)
    omega
  · have hv := refs_vals each
    exact ⟨.ref p, _, Inv.newlist I k hg ho hp hc hv (by rw [List.length_map, (List.mergeSort_perm _ _).length_eq, pm.length_eq, hll, sizeLine_eq]; omega), rfl, q p bs pm (I.hok.fresh hp)⟩
end
end PLS
namespace PLS
open PySem PySem.Spec PyProof.Rows L2
section
variable {P : Program} {w : World} {A : Around} {E : Value → Shared → Prop} {s : Shared}
/-- set(a list) -/
theorem call_set_ints {l : Addr} {items : Array Value} (ns : List Int) {Q : Value → Shared → Prop} (hh : A.handled = none) (hl : s.heap.IsList l items) (hit : IntsAre items.toList ns) (hb : ns.length + 1 < scanBound)
    (h : ∀ (h' : Heap) (tk c : Nat), SetR w h' s.heap.objs.size (fun j => decide (j ∈ ns)) c → c ≤ ns.length → (∀ b o, s.heap.get? b = some o → h'.get? b = some o) → Q (.ref s.heap.objs.size) { s with heap := h', toks := tk }) : wpAny (model P w) A (call (.type "set") [.ref l]) Q E s := by
  have hisz : items.size = ns.length := by have z := IntsAre.length hit; simpa using z
  obtain ⟨c, tl, hmro⟩ := F.called_set.mro
  have hmade := F.called_set.made
  have hsub := F.called_set.sub
  refine wpAny_call (codeAny_of_tree (?_ : wpAny _ _ (callAny (.type "set") _) _ _ _))
  refine wpAny_pure ⟨Code.quiet_builtin _ (by decide +kernel), codeAny_builtin F.entry_type_call ?_⟩
  rw [Around.under_plain (weight_type_call_type "set" [.ref l] []) rfl]
  have h1 := F.called_set.notType
  have h2 := F.called_set.canCreate
  have hct := F.typeCall_set_1 (.ref l)
  repeat (any_goals (first | assumption | wp_step))
  have hS : (s.heap.push (newS w)).get? s.heap.objs.size = some (newS w) := Heap.get?_push_size _ rfl
  refine codeAny_mono (code_set_led1 (.ref l) (E := E) (Q₁ := fun obj s₁ => obj = .ref s.heap.objs.size ∧ s₁ = { s with heap := s.heap.push (newS w) }) ⟨rfl, rfl⟩) fun r s₁ hr => ?_
  cases r with
  | error e => exact hr
  | ok fl =>
    cases fl with
    | ret obj =>
      obtain ⟨rfl, rfl⟩ := hr
      have hT : Shared.TypeIs { s with heap := s.heap.push (newS w) } (.ref s.heap.objs.size) "set" := ⟨_, hS, rfl⟩
      have hli := F.called_set.init.lookup
      have hbi := F.called_set.init.bind (.ref s.heap.objs.size)
      repeat (any_goals (first | assumption | wp_step))
      refine codeAny_mono (codeAny_call_builtin (R := wants (fun r s₂ => r = .none ∧ ∃ (h' : Heap) (tk c : Nat), s₂ = { s with heap := h', toks := tk } ∧ SetR w h' s.heap.objs.size (fun j => decide (j ∈ ns)) c ∧ c ≤ ns.length ∧ (∀ b o, s.heap.get? b = some o → h'.get? b = some o)) E) F.called_set.init.plain F.entry_set_init (check_set_init_1 hT ?_)) fun r₂ s₂ hr₂ => ?_
      · obtain ⟨⟨ocls, odict, odata, oslots⟩, hol, hcl, nl, hdl⟩ := hl
        simp only at hcl hdl
        subst hcl; subst hdl
        have hol' : (s.heap.push (newS w)).get? l = some { cls := .type "list", dict := odict, data := .seq items nl, slots := oslots } := Heap.get?_push_of_some _ hol
        have hsls := F.sub_list_set
        have hslf := F.sub_list_frozenset
        have hne : (Value.type "list" == Value.type "dict") = false := by decide
        have hl1 : (s.heap.push (newS w)).IsList l items := ⟨_, hol', rfl, nl, rfl⟩
        unfold Builtin.«set.__init__» noKeywords Builtin.Frozenset.updateFrom
        generalize hPI : pyIter = PI
        wp_walk
        subst hPI
        refine wpAny_pyIter_list hl1 (wpAny_bind (wpAny_runValue ?_))
        have hlS : l < s.heap.objs.size := Heap.lt_size hol
        have hz1 : (s.heap.push (newS w)).objs.size = s.heap.objs.size + 1 := Heap.size_push ..
        have nowhere : ∀ b, s.heap.objs.size ≤ b → s.heap.get? b = none := fun b hb => by
          cases q : s.heap.get? b with
          | none => rfl
          | some o => exact absurd (Nat.lt_of_lt_of_le (Heap.lt_size q) hb) (Nat.lt_irrefl _)
        refine set_update_ints ((Walks.list (by simp [hh]) _ l (by rw [hz1]; exact Nat.ne_of_lt (Nat.lt_succ_of_lt hlS)) items).toS) s.heap.objs.size (by rw [hz1]; simp only [List.mem_cons, List.not_mem_nil, or_false, not_or]; exact ⟨Nat.ne_of_lt (Nat.lt_succ_self _), Nat.ne_of_gt hlS⟩) ns hisz hb (fun i v hv => ?_) (items.size - 0) 0 _ (by omega) (Nat.zero_le _)
          ⟨⟨_, Heap.get?_push_size _ rfl, rfl, rfl⟩, (hl1.push _)⟩ ⟨0, Nat.le_refl 0, setR_new_at (Heap.get?_push_of_some _ hS)⟩ fun s' c' mv hc' hS' => ?_
        · have hi : i < ns.length := by rw [← hisz]; exact (Array.getElem?_eq_some_iff.mp hv).1
          obtain ⟨t, e⟩ := IntsAre.int_at hit i v (by rw [Array.getElem?_toList]; exact hv)
          exact ⟨ns[i], t, List.getElem?_eq_getElem hi, by rw [e, List.getD_eq_getElem?_getD, List.getElem?_eq_getElem hi]; rfl⟩
        · obtain ⟨h', g2, d', tk', os'⟩ := s'
          obtain rfl : g2 = s.gens := mv.gens
          obtain rfl : d' = s.drawn := mv.drawn
          obtain rfl : os' = s.os := mv.os
          rw [hisz] at hc'
          refine wpAny_pure (wpAny_pure ⟨rfl, h', tk', c', rfl, hS', hc', fun b o e => ?_⟩)
          have lt := Heap.lt_size e
          refine mv.heap b o ?_ (Heap.get?_push_of_some _ (Heap.get?_push_of_some _ e))
          rw [hz1]; simp only [List.mem_cons, List.not_mem_nil, or_false, not_or]
          exact ⟨Nat.ne_of_lt lt, Nat.ne_of_lt (Nat.lt_succ_of_lt lt)⟩
      · cases r₂ with
        | error e => exact hr₂
        | ok fl₂ =>
          cases fl₂ with
          | ret r =>
            obtain ⟨rfl, h', tk, c, rfl, z1, z2, z3⟩ := hr₂
            repeat (any_goals (first | assumption | wp_step))
            exact h _ _ _ z1 z2 z3
          | _ => exact hr₂.elim
    | _ => exact hr.elim
end
end PLS
namespace PLS
open PySem L2 PL
theorem SrtD.of_sub {ds es : List PyData} (h : SrtD ds) (p : ∀ d ∈ es, d ∈ ds) : SrtD es :=
  ⟨fun d hd d' hd' => h.al d (p d hd) d' (p d' hd'), h.kd.imp (fun z => z.imp (fun y d hd => y d (p d hd)) fun y d hd => y d (p d hd)) fun z d hd => z d (p d hd)⟩
theorem setR_few {w : World} {h : Heap} {a : Addr} {S : Int → Bool} {n : Nat} {m : List Int} (R : SetR w h a S n) (hm : ∀ k, S k = true → k ∈ m) : n ≤ m.length := by
  obtain ⟨o, es, ep, t, _, _, _, _, nd, mem, _, _, e, _⟩ := R
  have z := ndl nd fun k hk => hm k ((mem k).mpr hk)
  rw [List.length_map, Array.length_toList, e] at z
  exact z
section
variable {X : Cx}
/-- set(a list of ints) -/
def rSetI (X : Cx) : List V → Hp → VK → Prop := fun xs H Q => ∃ (l : Addr) (ns m : List Int), xs = [.ref l] ∧ SqL X.K H l (ns.map V.int) ∧ ns.length < 4000 ∧ m.length < 64 ∧ (∀ k ∈ ns, k ∈ m) ∧ ∀ a c, H a = none → c < 64 → Q (.ref a) (upd H a (SetO X.w a (fun j => decide (j ∈ ns)) c))
theorem cr_setI (hc : X.calm = true) : CallR X (.type "set") (rSetI X) := by
  intro pins s σ H xs us Q I r h
  obtain ⟨l, ns, m, rfl, hl, hz, hm, hs, q⟩ := h
  rw [Vals.ref1 r]
  obtain ⟨its, rv, pl, _⟩ := I.list hl
  refine call_set_ints ns (I.ok.hd hc) pl.isList (by simpa using rv.ints) (by unfold scanBound; omega) fun h' tk c R hcn k => ?_
  have few := setR_few R fun k hk => hs k (of_decide_eq_true hk)
  exact ⟨.ref s.heap.objs.size, upd H s.heap.objs.size (SetO X.w s.heap.objs.size _ c), I.laid (t' := tk) k (Nat.le_refl _) (setO_new R), rfl, q _ c (I.hok.fresh (Nat.le_refl _)) (by omega)⟩
variable {M : MS} {σ : St} {G : Hp} {b : Expr} {p p2 p3 pos : Pos}
/-- sorted(set(a list of ints)) -/
theorem l_sortedSetI {ns : List Int} (hm : X.mg "sorted" = none) (hm2 : X.mg "set" = none) (hc : X.calm = true) (h : ED X M b σ G (.list (ns.map .int))) (hz : ns.length < 4000) (hf : ∃ m : List Int, m.length < 64 ∧ ∀ k ∈ ns, k ∈ m) (hg : Gl X "sorted" := by rfl) (hg2 : Gl X "set" := by rfl) (na : starEach [b] X.env = (false, eval b X.env) :: starEach [] X.env := by exact star_one rfl) :
    EL X M (.Call (.Name "sorted" p) [.Call (.Name "set" p2) [b] [] p3] [] pos) σ G (fun ds => ∃ ns' : List Int, ds = ns'.map .int ∧ ns'.Pairwise (· < ·) ∧ ∀ k, k ∈ ns' ↔ k ∈ ns) := fun G1 H1 y w Q q =>
  toE (pe_callB (cr_sortedSet hc) hg hm (by decide +kernel) (pa_cons (pe_callTy (cr_setI hc) hg2 hm2 (by decide +kernel) (paR [b]) (by decide) (by decide) na) pa_nil (star_one rfl)) (by decide) (by decide) (star_one rfl)) ((a_cons h a_nil na) G1 H1 y w _ fun vs ds G2 H2 s hvs e => by
    subst e
    obtain ⟨v, rfl, hd⟩ := dps1 hvs
    obtain ⟨p', xs, rfl, h1, h2⟩ := dp_lst hd
    have e := dps_ints h2; subst e
    obtain ⟨m, hm1, hm2⟩ := hf
    refine ⟨p', ns, m, rfl, s.wd.gh.sql h1, hz, hm1, hm2, fun a c ha hc64 => ⟨a, _, c, rfl, upd_same, hc64, fun ns' l so mem _ hl => ?_⟩⟩
    have s1 := s.trans (.laidN (o := SetO X.w a (fun j => decide (j ∈ ns)) c) s.wd ha)
    have s2 := s1.trans (.laidN (o := .lst (ns'.map V.int)) s1.wd hl)
    exact q l _ _ G2 _ s2 (s1.back hl) (s1.wd.gh.back hl) upd_same (dps_of_ints ns') ⟨ns', rfl, so, fun k => by rw [mem k, decide_eq_true_iff]⟩)
/-- the data behind a set's elements -/
theorem pick_data {vs : List V} {ds : List PyData} : ∀ {L : Els}, (∀ p ∈ L, ∃ d, (V.ref p.1, d) ∈ vs.zip ds ∧ kn d = p.2) → ∃ ls : List (Addr × PyData), ls.map (fun p => (p.1, kn p.2)) = L ∧ ∀ p ∈ ls, (V.ref p.1, p.2) ∈ vs.zip ds
  | [], _ => ⟨[], rfl, fun p h => (by cases h)⟩
  | p :: L, h => by
    obtain ⟨ls, e, f⟩ := pick_data (L := L) fun q hq => h q (List.mem_cons_of_mem _ hq)
    obtain ⟨d, hd, h2⟩ := h p List.mem_cons_self
    refine ⟨(p.1, d) :: ls, by rw [List.map_cons, e, h2], fun q hq => ?_⟩
    rcases List.mem_cons.mp hq with rfl | hq
    · exact hd
    · exact f q hq
theorem dps_refs {K : PySem.W.Frag} {G : Hp} : ∀ {bs : List (Addr × PyData)}, (∀ p ∈ bs, Dp K G (.ref p.1) p.2) → DpAll K G (bs.map fun b => V.ref b.1) (bs.map (·.2))
  | [], _ => .nil
  | b :: bs, h => .cons (h b List.mem_cons_self) (dps_refs fun p hp => h p (List.mem_cons_of_mem _ hp))
/-- the data bs, each once, are those of ds -/
structure OnceOf (ds es : List PyData) : Prop where
  sub : ∀ d ∈ es, d ∈ ds
  all : ∀ d ∈ ds, kn d ∈ es.map kn
  nd : (es.map kn).Nodup
/-- sorted(set(a list of tuples)) -/
theorem l_sortedSetN {ds : List PyData} (hm : X.mg "sorted" = none) (hm2 : X.mg "set" = none) (hc : X.calm = true) (hu : X.A.units + 64 < cLine) (h : ED X M b σ G (.list ds)) (he : ∀ d ∈ ds, elD d ∧ d.depth ≤ 32) (hsd : SrtD ds) (hf : ∃ m : List NestedKey, m.length < 77 ∧ ∀ d ∈ ds, kn d ∈ m) (hg : Gl X "sorted" := by rfl) (hg2 : Gl X "set" := by rfl) (na : starEach [b] X.env = (false, eval b X.env) :: starEach [] X.env := by exact star_one rfl) :
    EL X M (.Call (.Name "sorted" p) [.Call (.Name "set" p2) [b] [] p3] [] pos) σ G (fun ds' => ∃ es, OnceOf ds es ∧ ds' = es.mergeSort (PySem.W.dataLe false id)) := fun G1 H1 y w Q q =>
  toE (pe_callB (cr_sortN hc hu) hg hm (by decide +kernel) (pa_cons (pe_callTy (cr_setN hc hu) hg2 hm2 (by decide +kernel) (paR [b]) (by decide) (by decide) na) pa_nil (star_one rfl)) (by decide) (by decide) (star_one rfl)) ((a_cons h a_nil na) G1 H1 y w _ fun vs ds0 G2 H2 s hvs e => by
    subst e
    obtain ⟨v, rfl, hd⟩ := dps1 hvs
    obtain ⟨p', xs, rfl, h1, h2⟩ := dp_lst hd
    refine ⟨p', xs, ds, rfl, s.wd.gh.sql h1, s.wd.gh.dps h2, fun d hd => (he d hd).1, hf, fun a L ha hL hall hnd => ?_⟩
    obtain ⟨ls, e1, e2⟩ := pick_data hL
    have kd : ∀ q ∈ ls, Dp X.K G2 (.ref q.1) q.2 ∧ q.2 ∈ ds := fun q hq => ⟨dps_mem h2 _ (e2 q hq), (List.of_mem_zip (e2 q hq)).2⟩
    have s1 := s.trans (.laidN (o := NSetO X.prog X.w a L) s.wd ha)
    refine ⟨a, L, ls, rfl, upd_same, e1, fun q hq => ⟨s1.wd.gh.dp (kd q hq).1, (he _ (kd q hq).2).1⟩, hsd.of_sub (fun d hd => ?_), fun q hq => (he _ (kd q hq).2).2, fun l bs pm hl => ?_⟩
    · obtain ⟨x, hx, rfl⟩ := List.mem_map.mp hd
      exact (kd x hx).2
    · have s2 := s1.trans (.laidN (o := .lst ((bs.mergeSort (PySem.W.dataLe false (·.2))).map fun b => V.ref b.1)) s1.wd hl)
      have inb : ∀ q ∈ bs, q ∈ ls := fun q hq => pm.mem_iff.mp hq
      have hd2 := dps_refs (K := X.K) (G := G2) (bs := bs.mergeSort (PySem.W.dataLe false (·.2))) fun q hq => (kd q (inb q ((List.mergeSort_perm _ _).mem_iff.mp hq))).1
      have em : (bs.mergeSort (PySem.W.dataLe false (·.2))).map (·.2) = (bs.map (·.2)).mergeSort (PySem.W.dataLe false id) := map_sort (r := PySem.W.dataLe false fun x : Addr × PyData => x.2) (s := PySem.W.dataLe false id) (fun a b => rfl) _
      rw [em] at hd2
      have ek : (bs.map (·.2)).map kn = bs.map fun q => kn q.2 := by rw [List.map_map]; rfl
      have el : L.map (·.2) = ls.map fun q => kn q.2 := by rw [← e1, List.map_map]; rfl
      have pk : (bs.map fun q => kn q.2).Perm (L.map (·.2)) := by rw [el]; exact pm.map _
      refine q l _ _ G2 _ s2 (s1.back hl) (s1.wd.gh.back hl) upd_same hd2 ⟨bs.map (·.2), ⟨fun d hd => ?_, fun d hd => ?_, ?_⟩, rfl⟩
      · obtain ⟨x, hx, rfl⟩ := List.mem_map.mp hd
        exact (kd x (inb x hx)).2
      · rw [ek]; exact pk.mem_iff.mpr (hall d hd)
      · rw [ek]; exact pk.nodup_iff.mpr hnd)
end
end PLS
namespace PLS
open PySem L2 PL
/-- one order for the same data -/
theorem sort_uniq {β : Type} {enc : β → PyData} (inj : ∀ a b, PySem.W.keyToks (enc a) = PySem.W.keyToks (enc b) → a = b) {l m : List β} (h : l.Perm m) : l.mergeSort (PySem.W.dataLe false enc) = m.mergeSort (PySem.W.dataLe false enc) := by
  have T := PySem.W.sortLe_total (PyProof.Rows.listOrd PyProof.Rows.itemOrd) false fun b => PySem.W.keyToks (enc b)
  have s1 := List.pairwise_mergeSort (le := PySem.W.dataLe false enc) (fun a b c => T.trans a b c) (fun a b => by rw [Bool.or_eq_true]; exact T.total a b) l
  have s2 := List.pairwise_mergeSort (le := PySem.W.dataLe false enc) (fun a b c => T.trans a b c) (fun a b => by rw [Bool.or_eq_true]; exact T.total a b) m
  have p : (l.mergeSort (PySem.W.dataLe false enc)).Perm (m.mergeSort (PySem.W.dataLe false enc)) := ((List.mergeSort_perm l _).trans h).trans (List.mergeSort_perm m _).symm
  refine p.eq_of_pairwise (le := fun a b => PySem.W.dataLe false enc a b = true) (fun a b _ _ h1 h2 => ?_) s1 s2
  have e1 : (PyProof.Rows.listOrd PyProof.Rows.itemOrd).blt (PySem.W.keyToks (enc b)) (PySem.W.keyToks (enc a)) = false := by
    have z : (!(PyProof.Rows.listOrd PyProof.Rows.itemOrd).blt (PySem.W.keyToks (enc b)) (PySem.W.keyToks (enc a))) = true := h1
    simpa using z
  have e2 : (PyProof.Rows.listOrd PyProof.Rows.itemOrd).blt (PySem.W.keyToks (enc a)) (PySem.W.keyToks (enc b)) = false := by
    have z : (!(PyProof.Rows.listOrd PyProof.Rows.itemOrd).blt (PySem.W.keyToks (enc a)) (PySem.W.keyToks (enc b))) = true := h2
    simpa using z
  exact inj a b ((PyProof.Rows.listOrd PyProof.Rows.itemOrd).total _ _ e2 e1)
theorem toks_ints_inj : ∀ {a b : List Int}, PySem.W.keyToksAll (a.map PyData.int) = PySem.W.keyToksAll (b.map PyData.int) → a = b
  | [], [], _ => rfl
  | x :: a, y :: b, h => by
    rw [List.map_cons, List.map_cons, PySem.W.keyToksAll, PySem.W.keyToksAll, PySem.W.keyToks, PySem.W.keyToks] at h
    injection h with _ h
    injection h with h1 h2
    injection h1 with h1
    rw [h1, toks_ints_inj h2]
  | [], _ :: _, h => by rw [List.map_nil, List.map_cons, PySem.W.keyToksAll, PySem.W.keyToksAll] at h; injection h with h _; injection h with h; cases h
  | _ :: _, [], h => by rw [List.map_nil, List.map_cons, PySem.W.keyToksAll, PySem.W.keyToksAll] at h; injection h with h _; injection h with h; cases h
/-- the lexicographic order -/
theorem le_ints : PySem.W.dataLe false (fun b : List Int => PyData.tuple (b.map .int)) = fun p q => decide (p ≤ q) := by
  have z := PySem.W.dataLe_rows (β := List Int) fun b => b
  rw [← z]
  funext p q
  show (!PyProof.Rows.lexLt PyProof.Rows.itemOrd (PySem.W.keyToks (.tuple (q.map .int))) (PySem.W.keyToks (.tuple (p.map .int)))) = (!PyProof.Rows.lexLt PyProof.Rows.itemOrd (PySem.W.keyToks (.list (q.map .int))) (PySem.W.keyToks (.list (p.map .int))))
  rw [PySem.W.keyToks, PySem.W.keyToks, PySem.W.keyToks, PySem.W.keyToks]
end PLS
namespace PLS
open PySem L2 PL
def lenD : PyData → Int
  | .tuple xs => xs.length
  | .list xs => xs.length
  | _ => 0
abbrev rSortLen (K : PySem.W.Frag) : V → Hp → VK → Prop := fun v H Q => ∃ a vs ds, v = .ref a ∧ SqL K H a vs ∧ DpAll K H vs ds ∧ (∀ d ∈ ds, ∃ xs, d = .tuple xs) ∧ ∀ p, H p = none → Q (.ref p) (upd H p (.lst (((vs.zip ds).mergeSort (PySem.W.dataLe false fun b => .int (lenD b.2))).map (·.1))))
/-- sorted(a list of tuples, key=len), on values -/
theorem sorted_len {X : Cx} {pins : List (Addr × Obj)} {s : Shared} {σ : St} {H : Hp} {v : V} {u : Value} {Q : VK} (hu : X.A.units + 64 < cLine) (I : Inv X pins σ H s) (r : RelV v u) (h : rSortLen X.K v H Q) :
    wpAny (model X.prog X.w) X.A (call (.builtin "sorted") [u] [(Str.ofString "key", .builtin "len")]) (EP X pins σ Q) X.xe s := by
  obtain ⟨a, xs, ds, rfl, hs, hd, ht, q⟩ := h
  cases r
  obtain ⟨its, rv, hl, hz⟩ := I.list hs
  have hlen := dps_len hd
  have hzl : (xs.zip ds).length = xs.length := by rw [List.length_zip, hlen, Nat.min_self]
  refine PySem.W.sorted_key_data (R := fun (u : Value) (b : V × PyData) => b ∈ xs.zip ds ∧ RVD X.K H u b) (bs := xs.zip ds) (fun b => .int (lenD b.2)) hl.isList ?_ (PySem.W.AllAlike.of fun b b' => by rw [PySem.W.alike]) (PySem.W.Sortable.others fun b => And.intro (fun z => nomatch z) (fun xs z => nomatch z)) (by rw [hzl]; exact hz) (fun b _ => by show _ + 2 + 0 < cLine; omega) (PyProof.Rows.ksk_s1 _ _) (fun _ => PyProof.Rows.ksk_l1 _ _) (fun _ => PyProof.Rows.ksk_t4 _ _) (fun u b hb hm h tk k => ?_) (fun out c h' tk k _ hc _ each => ?_)
  · have z := rvd_zip rv hd
    exact (PySem.W.each_mem z).mono fun _ _ y => ⟨y.2, y.1⟩
  · obtain ⟨_, hr, hdp⟩ := hb
    obtain ⟨ys, e⟩ := ht _ (List.of_mem_zip hm).2
    rw [e] at hdp
    obtain ⟨a', vs', e1, h1, h2⟩ := dp_tup hdp
    rw [e1] at hr
    cases hr
    obtain ⟨its', rv', ⟨o, ho, hcl, n, hda⟩, hz'⟩ := I.tuple h1
    have zl : its'.length = ys.length := by rw [← rv'.length, dps_len h2]
    have fit : ((its'.toArray.size : Nat) : Int) < 2 ^ 63 := by
      have hn := line63
      simp only [List.size_toArray, ← rv'.length]
      omega
    refine PyProof.Rows.len_tuple (s := { s with heap := h, toks := tk }) ⟨o, k _ _ ho, hcl, n, hda⟩ fit ⟨h, _, rfl, fun _ _ y => y, ?_⟩
    have ez : ((its'.toArray.size : Nat) : Int) = lenD b.2 := by rw [e, List.size_toArray, zl]; rfl
    rw [ez]
    exact .int _ _
  · have hv := rvd_vals (each.mono fun _ _ y => y.2)
    exact ⟨.ref _, _, I.laid (t' := tk) k (Nat.le_succ _) (show ObjOk X.prog X.w _ _ _ (.lst _) from ⟨by rw [List.length_map, (List.mergeSort_perm _ _).length_eq, hzl]; exact hz, out, c, hv, hc⟩), rfl, q _ (I.hok.fresh (Nat.le_succ _))⟩
section
variable {X : Cx} {M : MS} {σ : St} {G : Hp} {b : Expr} {p p2 kp cpos : Pos}
/-- sorted(e, key=len) -/
theorem pe_sortLen {ta : TA} (hu : X.A.units + 64 < cLine) (hg : Gl X "sorted") (hm : X.mg "sorted" = none) (hg2 : Gl X "len") (hm2 : X.mg "len" = none) (ha : PA X [b] ta)
    (he : backTo cpos (starEach [b] X.env) = (false, eval b X.env) :: backTo cpos (starEach [] X.env) := by rfl) (hpl : (backTo cpos (starEach [b] X.env)).any (·.1) = false := by exact back_ok rfl) :
    PE X (.Call (.Name "sorted" p) [b] [⟨some "key", .Name "len" p2, kp⟩] cpos) (fun σ H Q => ta σ H fun vs H1 => ∃ v, vs = [v] ∧ rSortLen X.K v H1 Q) := by
  refine ⟨fun pins s σ H Q I h => ?_⟩
  refine wpAny_Call_Name_kw (ld_blt (u := .builtin "sorted") I hg hm (by decide +kernel) ?_)
  refine PyProof.Rows.callWith_kw (thn (ha.run cpos pins s σ H _ I h) fun us s1 ⟨vs, H1, I1, r1, v, e, q1⟩ => ?_) he hpl (by rfl) (by rfl)
  subst e
  cases r1 with
  | cons r r2 =>
    cases r2
    show wpAny _ _ (evalAll ((do let v ← eval (.Name "len" p2) X.env; standAt cpos; pure v) :: (backToKw cpos (keywordEach [] X.env)).map (·.2))) _ _ s1
    refine wpAny_evalAll_cons (wpAny_bind (ld_blt (u := .builtin "len") I1 hg2 hm2 (by decide +kernel) (wpAny_bind (wpAny_standAt (wpAny_pure (wpAny_evalAll_nil ?_))))))
    exact sorted_len hu I1 r q1
theorem l_sortedLen {ds : List PyData} (hm : X.mg "sorted" = none) (hm2 : X.mg "len" = none) (hu : X.A.units + 64 < cLine) (h : ED X M b σ G (.list ds)) (ht : ∀ d ∈ ds, ∃ xs, d = .tuple xs) (hg : Gl X "sorted" := by rfl) (hg2 : Gl X "len" := by rfl) (na : starEach [b] X.env = (false, eval b X.env) :: starEach [] X.env := by exact star_one rfl)
    (he : backTo cpos (starEach [b] X.env) = (false, eval b X.env) :: backTo cpos (starEach [] X.env) := by rfl) (hpl : (backTo cpos (starEach [b] X.env)).any (·.1) = false := by exact back_ok rfl) :
    EL X M (.Call (.Name "sorted" p) [b] [⟨some "key", .Name "len" p2, kp⟩] cpos) σ G (· = ds.mergeSort (PySem.W.dataLe false fun d => .int (lenD d))) := fun G1 H1 y w Q q =>
  toE (pe_sortLen hu hg hm hg2 hm2 (paR [b]) he hpl) ((a_cons h a_nil na) G1 H1 y w _ fun vs ds' G2 H2 s hvs e => by
    subst e
    obtain ⟨v, rfl, hd⟩ := dps1 hvs
    obtain ⟨p', xs, rfl, h1, h2⟩ := dp_lst hd
    refine ⟨_, rfl, p', xs, ds, rfl, s.wd.gh.sql h1, s.wd.gh.dps h2, ht, fun l hl => ?_⟩
    have hp : ∀ c ∈ (xs.zip ds).mergeSort (PySem.W.dataLe false fun c => .int (lenD c.2)), Dp X.K G2 c.1 c.2 := fun c hc => dps_mem h2 c ((List.mergeSort_perm _ _).mem_iff.mp hc)
    have hd2 := dps_of_mem _ hp
    have e2 : ((xs.zip ds).mergeSort (PySem.W.dataLe false fun c => .int (lenD c.2))).map (·.2) = ds.mergeSort (PySem.W.dataLe false fun d => .int (lenD d)) := by
      rw [map_sort (r := PySem.W.dataLe false fun x : V × PyData => .int (lenD x.2)) (s := PySem.W.dataLe false fun d => .int (lenD d)) (fun a b => rfl), zip_snd (dps_len h2)]
    rw [e2] at hd2
    exact q l _ _ G2 _ (s.trans (.laidN s.wd hl)) (s.back hl) (s.wd.gh.back hl) upd_same hd2 rfl)
end
end PLS
namespace PL
open PySem L2
section
variable {X : Cx} {M : MS} {σ : St} {G : Hp} {a b : Expr} {pos : Pos}
/-- a list that stands as a list, known or new -/
def EH (X : Cx) (M : MS) (e : Expr) (σ : St) (G : Hp) (P : List D → Prop) : Prop := ∀ G1 H1, Ex G G1 → Wd M G1 H1 → ∀ Q : VK, (∀ p vs ds G2 H2, Stp M G1 H1 G2 H2 → ¬ M.m p → H2 p = some (.lst vs) → DpAll X.K G2 vs ds → P ds → Q (.ref p) H2) → rdE X e σ H1 Q
theorem EL.h {P : List D → Prop} (h : EL X M a σ G P) : EH X M a σ G P := fun G1 H1 x w Q q => h G1 H1 x w Q fun p vs ds G2 H2 s hp gp hl hd r => q p vs ds G2 H2 s (w.nm hp) hl hd r
theorem h_var (i : Nat) {x : Str} {l : Addr} {vs : List V} {ds : List D} (hl : G l = some (.lst vs)) (hd : DpAll X.K G vs ds) (hs : σ[i]? = some (some (.ref l)) := by rfl) (hN : X.N[i]? = some x := by rfl) (hv : Vis X.env.scope x := by first | exact Or.inl rfl | exact Or.inr (Or.inl rfl) | exact Or.inr (Or.inr rfl))
    (hdb : (x == ("__debug__" : Str)) = false := by decide) (hcd : (x == ("__classdict__" : Str)) = false := by decide) : EH X M (.Name x pos) σ G (· = ds) := fun G1 H1 y w Q q =>
  toE (pe_var hN hv hdb hcd) ⟨_, hs, q l vs ds G1 H1 (.refl w) (fun z => by have := w.off l z; rw [y l _ hl] at this; cases this) (w.gh _ _ (y l _ hl)) (y.dps hd) rfl⟩
/-- list + list -/
theorem l_cat {P R T : List D → Prop} (ha : EH X M a σ G P) (hb : EH X M b σ G R) (hc : ∀ ds es, P ds → R es → ds.length + es.length ≤ 100000 ∧ T (ds ++ es)) : EL X M (.BinOp a .Add b pos) σ G T := fun G1 H1 x w Q q =>
  toE (pe_op op_cat (peR a) (peR b)) (ha G1 H1 x w _ fun p vs ds G2 H2 s np hl hd pd => hb G2 H2 (x.trans s.gg) s.wd _ fun p' ws es G3 H3 s' np' hl' he re => by
    have st := s.trans s'
    obtain ⟨z, t⟩ := hc ds es pd re
    exact ⟨p, p', vs, ws, rfl, rfl, s'.hh _ _ np hl, hl', sz (by rw [dps_len hd, dps_len he]; exact z), fun l hl => q l _ _ G3 _ (st.trans (.laidN st.wd hl)) (st.back hl) (st.wd.gh.back hl) upd_same (dps_app (s'.gg.dps hd) he) t⟩)
end
end PL
namespace DW
open PySem L2 PL
/-! what is wanted of an outcome: fails, draws -/
def W (α : Type) : Type := (α → Prop) → Prop
instance : Monad W where
  pure a := fun Q => Q a
  bind w f := fun Q => w fun a => f a Q
instance : LawfulMonad W := LawfulMonad.mk' (m := W) (fun _ => rfl) (fun _ _ => rfl) (fun _ _ _ => rfl)
def gd (c : Prop) : W Unit := fun Q => c ∧ Q ()
/-- a drawn number below n -/
def drw (n : Int) : W Int := fun Q => (0 < n ∧ n < 18446744073709551616) ∧ ∀ r, 0 ≤ r → r < n → Q r
section
variable {α β : Type} {Q : β → Prop}
@[simp] theorem W.bind_run (w : W α) (f : α → W β) (Q : β → Prop) : (w >>= f) Q = w fun a => f a Q := rfl
@[simp] theorem W.pure_run (a : β) (Q : β → Prop) : (pure a : W β) Q = Q a := rfl
@[simp] theorem W.gd_run (c : Prop) (Q : Unit → Prop) : gd c Q = (c ∧ Q ()) := rfl
@[simp] theorem W.drw_run (n : Int) (Q : Int → Prop) : drw n Q = ((0 < n ∧ n < 18446744073709551616) ∧ ∀ r, 0 ≤ r → r < n → Q r) := rfl
@[simp] theorem W.ite_run (c : Prop) [Decidable c] (a b : W α) (Q : α → Prop) : (if c then a else b) Q = if c then a Q else b Q := by split <;> rfl
theorem gd_true {c : Prop} (h : c) (f : Unit → W α) : (gd c >>= f) = f () := by
  funext Q; show (c ∧ f () Q) = f () Q
  exact propext ⟨fun x => x.2, fun x => ⟨h, x⟩⟩
end
/-! encoders -/
abbrev eI : Int → PyData := .int
abbrev eB : Bool → PyData := .bool
abbrev eS : Str → PyData := .str
abbrev eN : Unit → PyData := fun _ => .none
section
variable {α β γ δ ε : Type}
def eT (e : α → PyData) : List α → PyData := fun l => .tuple (l.map e)
def eL (e : α → PyData) : List α → PyData := fun l => .list (l.map e)
def eP (a : α → PyData) (b : β → PyData) : α × β → PyData := fun p => .tuple [a p.1, b p.2]
def eP3 (a : α → PyData) (b : β → PyData) (c : γ → PyData) : α × β × γ → PyData := fun p => .tuple [a p.1, b p.2.1, c p.2.2]
def eP4 (a : α → PyData) (b : β → PyData) (c : γ → PyData) (d : δ → PyData) : α × β × γ × δ → PyData := fun p => .tuple [a p.1, b p.2.1, c p.2.2.1, d p.2.2.2]
def eO (e : α → PyData) : Option α → PyData
  | none => .none
  | some x => e x
end
/-! the text's facts, a frame's -/
structure Tx where
  P : Program
  w : World
  K : PySem.W.Frag
  mg : Str → Option Value
  base : Heap
  mt : MS
abbrev Tx.of (X : Cx) (m : MS) : Tx := ⟨X.prog, X.w, X.K, X.mg, X.base, m⟩
/-- what N may turn, M may -/
structure MIn (N M : MS) : Prop where
  wd : ∀ {G H : Hp}, Wd M G H → Wd N G H
  st : ∀ {G H G' H' : Hp}, Wd M G H → Stp N G H G' H' → Stp M G H G' H'
theorem MIn.refl (M : MS) : MIn M M := ⟨fun w => w, fun _ s => s⟩
theorem MIn.zero (M : MS) : MIn M0 M := ⟨fun w => ⟨w.gh, fun _ h => h.elim, trivial⟩, fun w s => Stp.lift w s⟩
theorem MIn.trans {L N M : MS} (a : MIn L N) (b : MIn N M) : MIn L M := ⟨fun w => a.wd (b.wd w), fun w s => b.st w (a.st (b.wd w) s)⟩
/-- the slots' names, the scope, the names whose cells were made at the entry, the level -/
structure Fr where
  N : List Str
  sc : Scope
  st : List Str
  k : Nat
def isVis : Option NameKind → Bool
  | some .local => true
  | some .cell => true
  | some .free => true
  | _ => false
def isLoc : Option NameKind → Bool
  | some .local => true
  | some .cell => true
  | _ => false
def isLocal : Option NameKind → Bool
  | some .local => true
  | _ => false
def isGlob : Option NameKind → Bool
  | some .globalImplicit => true
  | _ => false
def strEq (a b : Str) : Bool := decide (a = b)
def Fr.at (F : Fr) (i : Nat) (x : Str) : Bool := match F.N[i]? with
  | some y => strEq y x
  | none => false
def Fr.vis (F : Fr) (i : Nat) (x : Str) : Bool := F.at i x && isVis (F.sc.names.lookup x) && (x == ("__debug__" : Str)) == false && (x == ("__classdict__" : Str)) == false
def Fr.sto (F : Fr) (i : Nat) (x : Str) : Bool := F.at i x && isLoc (F.sc.names.lookup x) && (isLocal (F.sc.names.lookup x) || F.st.any fun y => strEq y x)
def Fr.loc (F : Fr) (i : Nat) (x : Str) : Bool := F.at i x && isLocal (F.sc.names.lookup x)
def Fr.glo (F : Fr) (x : Str) : Bool := isGlob (F.sc.names.lookup x) && (x == ("__debug__" : Str)) == false
def isCell : Option NameKind → Bool
  | some .cell => true
  | _ => false
def Fr.blk (F : Fr) (scope : Scope) : Fr := ⟨F.N, relS scope F.sc, (scope.names.filter fun p => isCell (scope.names.lookup p.1)).map (·.1), F.k⟩
structure CxF (T : Tx) (F : Fr) (X : Cx) : Prop where
  tx : Tx.of X T.mt = T
  N : X.N = F.N
  nd : X.N.Nodup
  calm : X.calm = true
  sc : X.env.scope = F.sc
  st : ∀ x ∈ F.st, X.fn x = true
  room : Room F.k X.A
  po : PassesOwn (model X.prog X.w) X.A X.env X.xe
section
variable {T : Tx} {F : Fr} {X : Cx}
theorem strEq_of {a b : Str} (h : strEq a b = true) : a = b := of_decide_eq_true h
theorem CxF.at (C : CxF T F X) {i : Nat} {x : Str} (h : F.at i x = true) : X.N[i]? = some x := by
  unfold Fr.at at h
  rw [C.N]
  split at h
  · rename_i y e; rw [e, strEq_of h]
  · cases h
theorem isVis_of {o : Option NameKind} (h : isVis o = true) : o = some .local ∨ o = some .cell ∨ o = some .free := by
  unfold isVis at h; split at h <;> simp_all
theorem isLoc_of {o : Option NameKind} (h : isLoc o = true) : o = some .local ∨ o = some .cell := by
  unfold isLoc at h; split at h <;> simp_all
theorem isLocal_of {o : Option NameKind} (h : isLocal o = true) : o = some .local := by
  unfold isLocal at h; split at h <;> simp_all
theorem isGlob_of {o : Option NameKind} (h : isGlob o = true) : o = some .globalImplicit := by
  unfold isGlob at h; split at h <;> simp_all
theorem isCell_of {o : Option NameKind} (h : isCell o = true) : o = some .cell := by
  unfold isCell at h; split at h <;> simp_all
theorem CxF.vis (C : CxF T F X) {i : Nat} {x : Str} (h : F.vis i x = true) : X.N[i]? = some x ∧ Vis X.env.scope x ∧ (x == ("__debug__" : Str)) = false ∧ (x == ("__classdict__" : Str)) = false := by
  unfold Fr.vis at h
  simp only [Bool.and_eq_true, beq_iff_eq] at h
  obtain ⟨⟨⟨h1, h2⟩, h3⟩, h4⟩ := h
  exact ⟨C.at h1, by rw [C.sc]; exact isVis_of h2, h3, h4⟩
theorem CxF.sto (C : CxF T F X) {i : Nat} {x : Str} (h : F.sto i x = true) : X.N[i]? = some x ∧ Loc X.env.scope x ∧ (X.fn x = true ∨ X.env.scope.names.lookup x = some .local) := by
  unfold Fr.sto at h
  simp only [Bool.and_eq_true, Bool.or_eq_true, List.any_eq_true] at h
  obtain ⟨⟨h1, h2⟩, h3⟩ := h
  refine ⟨C.at h1, by rw [C.sc]; exact isLoc_of h2, ?_⟩
  rcases h3 with h3 | ⟨y, h3, h4⟩
  · exact .inr (by rw [C.sc]; exact isLocal_of h3)
  · exact .inl (C.st _ (by rw [← strEq_of h4]; exact h3))
theorem CxF.loc (C : CxF T F X) {i : Nat} {x : Str} (h : F.loc i x = true) : X.N[i]? = some x ∧ X.env.scope.names.lookup x = some .local := by
  unfold Fr.loc at h
  simp only [Bool.and_eq_true] at h
  exact ⟨C.at h.1, by rw [C.sc]; exact isLocal_of h.2⟩
theorem CxF.glo (C : CxF T F X) {x : Str} (h : F.glo x = true) : Gl X x ∧ (x == ("__debug__" : Str)) = false := by
  unfold Fr.glo at h
  simp only [Bool.and_eq_true, beq_iff_eq] at h
  exact ⟨by show X.env.scope.names.lookup x = _; rw [C.sc]; exact isGlob_of h.1, h.2⟩
theorem CxF.hu (C : CxF T F X) : X.A.units + 64 < cLine := C.room.units
theorem CxF.K (C : CxF T F X) : X.K = T.K := congrArg Tx.K C.tx
theorem CxF.P (C : CxF T F X) : X.prog = T.P := congrArg Tx.P C.tx
theorem CxF.mg (C : CxF T F X) : X.mg = T.mg := congrArg Tx.mg C.tx
/-- the frame within a comprehension -/
theorem CxF.blk (C : CxF T F X) {scope : Scope} {own : List (Str × Nat)} (ok : blkC F.N F.sc scope own = true) : BlkOk X.N X.env.scope scope own ∧ Blk X scope fun Y => CxF T (F.blk scope) Y := by
  have ok' := blkOk_by ok
  rw [← C.N, ← C.sc] at ok'
  refine ⟨ok', fun s H0 Ca cl fp => ⟨C.tx, C.N, C.nd, C.calm, ?_, fun x hx => ?_, C.room, PassesOwn.never⟩⟩
  · show relS scope X.env.scope = relS scope F.sc
    rw [C.sc]
  · obtain ⟨p, hp, rfl⟩ := List.mem_map.mp hx
    have hl := isCell_of (by simpa using (List.mem_filter.mp hp).2)
    show (scope.names.lookup p.1 == some NameKind.cell) = true
    rw [hl]; rfl
end
/-! what stands in a slot, what comes of an expression -/
/-- something known of a value: over the heap that is the base, over what is known -/
structure KP where
  p : Hp → Hp → V → Prop
  up : ∀ {H0 G G' : Hp} {v : V}, Ex G G' → p H0 G v → p H0 G' v
  bk : ∀ {H0 H1 G : Hp} {v : V}, (∀ a, H1 a = none → H0 a = none) → p H1 G v → p H0 G v
inductive XD where
  | d (x : PyData)
  | l (xs : List PyData)
  | p
  | q (φ : KP)
inductive Sl where
  | no
  | d (x : PyData)
  | l (xs : List PyData)
  | p
  | q (φ : KP)
/-- a value that is known -/
def Vp (T : Tx) (M : MS) (G : Hp) (v : V) : XD → Prop
  | .d x => Dp T.K G v x
  | .l _ => False
  | .p => ∃ p c, MIn (MP p c) M ∧ v = .ref p
  | .q φ => ∀ Hb, φ.p Hb G v
/-- an outcome: known, or a new list -/
def Rv (T : Tx) (M : MS) (H0 G H : Hp) (v : V) : XD → Prop
  | .d x => Dp T.K G v x
  | .l xs => ∃ p vs, v = .ref p ∧ H0 p = none ∧ G p = none ∧ H p = some (.lst vs) ∧ DpAll T.K G vs xs
  | .p => ∃ p c, MIn (MP p c) M ∧ v = .ref p
  | .q φ => φ.p H0 G v
theorem Vp.up {T : Tx} {M : MS} {G G' : Hp} {v : V} {x : XD} (h : Vp T M G v x) (e : Ex G G') : Vp T M G' v x := by
  cases x with
  | d x => exact e.dp h
  | l xs => exact h.elim
  | p => exact h
  | q φ => exact fun Hb => φ.up e (h Hb)
inductive VpAll (T : Tx) (M : MS) (G : Hp) : List V → List XD → Prop
  | nil : VpAll T M G [] []
  | cons {v x vs xs} (h : Vp T M G v x) (t : VpAll T M G vs xs) : VpAll T M G (v :: vs) (x :: xs)
theorem VpAll.up {T : Tx} {M : MS} {G G' : Hp} {vs : List V} {xs : List XD} (h : VpAll T M G vs xs) (e : Ex G G') : VpAll T M G' vs xs := by
  induction h with
  | nil => exact .nil
  | cons h _ ih => exact .cons (h.up e) ih
/-- the slots, as an expression may read them: a list that grows is known for the while -/
def SlV (T : Tx) (M : MS) (G : Hp) (o : Option (Option V)) : Sl → Prop
  | .no => True
  | .d x => ∃ v, o = some (some v) ∧ Dp T.K G v x
  | .l xs => ∃ v, o = some (some v) ∧ Dp T.K G v (.list xs)
  | .p => ∃ p c, MIn (MP p c) M ∧ o = some (some (.ref p))
  | .q φ => ∃ v Hb, o = some (some v) ∧ φ.p Hb G v
structure View (T : Tx) (M : MS) (G : Hp) (σ : St) (S : List Sl) : Prop where
  mt : MIn T.mt M
  at_ : ∀ (i : Nat) (s : Sl), S[i]? = some s → SlV T M G σ[i]? s
theorem View.up {T : Tx} {M : MS} {G G' : Hp} {σ : St} {S : List Sl} (h : View T M G σ S) (e : Ex G G') : View T M G' σ S := ⟨h.mt, fun i s hi => by
  have := h.at_ i s hi
  cases s with
  | no => trivial
  | d x => obtain ⟨v, a, b⟩ := this; exact ⟨v, a, e.dp b⟩
  | l xs => obtain ⟨v, a, b⟩ := this; exact ⟨v, a, e.dp b⟩
  | p => exact this
  | q φ => obtain ⟨v, Hb, a, b⟩ := this; exact ⟨v, Hb, a, φ.up e b⟩⟩
section
variable (T : Tx) (F : Fr)
structure JX (e : Expr) (S : List Sl) {α : Type} (enc : α → XD) (w : W α) : Prop where
  run : ∀ (X : Cx) (M : MS) (σ : St) (G H : Hp), CxF T F X → Wd M G H → View T M G σ S → ∀ P : α → Prop, w P → ∀ Q : VK, (∀ v t G2 H2, Stp M G H G2 H2 → Rv T M H G2 H2 v (enc t) → P t → Q v H2) → rdE X e σ H Q
abbrev JE (e : Expr) (S : List Sl) {α : Type} (enc : α → PyData) (w : W α) : Prop := JX T F e S (fun t => .d (enc t)) w
abbrev JL (e : Expr) (S : List Sl) {α : Type} (enc : α → PyData) (w : W (List α)) : Prop := JX T F e S (fun t => .l (t.map enc)) w
structure JT (e : Expr) (S : List Sl) (w : W Bool) : Prop where
  run : ∀ (X : Cx) (M : MS) (σ : St) (G H : Hp), CxF T F X → Wd M G H → View T M G σ S → ∀ P : Bool → Prop, w P → ∀ Q : Bool → Hp → Prop, (∀ t G2 H2, Stp M G H G2 H2 → P t → Q t H2) → rdT X e σ H Q
structure JA (es : List Expr) (S : List Sl) {α : Type} (enc : α → List XD) (w : W α) : Prop where
  run : ∀ (X : Cx) (M : MS) (σ : St) (G H : Hp), CxF T F X → Wd M G H → View T M G σ S → ∀ P : α → Prop, w P → ∀ Q : List V → Hp → Prop, (∀ vs t G2 H2, Stp M G H G2 H2 → VpAll T M G2 vs (enc t) → P t → Q vs H2) → rdA X es σ H Q
/-- items of a display: with stars -/
structure JD (es : List Expr) (S : List Sl) {α : Type} (enc : α → List PyData) (w : W α) : Prop where
  run : ∀ (X : Cx) (M : MS) (σ : St) (G H : Hp), CxF T F X → Wd M G H → View T M G σ S → ∀ P : α → Prop, w P → ∀ Q : List V → Hp → Prop, (∀ vs t G2 H2, Stp M G H G2 H2 → DpAll T.K G2 vs (enc t) → P t → Q vs H2) → rdA X es σ H Q
end
section
variable {T : Tx} {F : Fr} {S : List Sl} {α β γ : Type} {e a b c : Expr} {es : List Expr} {pos : Pos}
/-- a new list becomes known -/
theorem JX.kn {enc : α → PyData} {w : W (List α)} (h : JL T F e S enc w) : JE T F e S (eL enc) w :=
  ⟨fun X M σ G H C wd v P hp Q q => h.run X M σ G H C wd v P hp Q fun v t G2 H2 s ⟨p, vs, e1, e2, e3, e4, e5⟩ pt => by
    subst e1
    exact q _ t (upd G2 p (.lst vs)) H2 (s.know e2 e4) (.lst (.inl (.inl upd_same)) ((Ex.new e3).dps e5)) pt⟩
theorem JX.imp {enc : α → XD} {w w' : W α} (h : JX T F e S enc w) (i : ∀ P, w' P → w P) : JX T F e S enc w' := ⟨fun X M σ G H C wd v P hp Q q => h.run X M σ G H C wd v P (i P hp) Q q⟩
/-! names, constants -/
theorem JE.var (i : Nat) {x : Str} {enc : α → PyData} (t : α) (hs : S[i]? = some (.d (enc t))) (hv : F.vis i x = true := by kernel_rfl) : JE T F (.Name x pos) S enc (pure t) :=
  ⟨fun X M σ G H C wd v P hp Q q => by
    obtain ⟨h1, h2, h3, h4⟩ := C.vis hv
    obtain ⟨u, e, d⟩ := v.at_ i _ hs
    exact toE (pe_var h1 h2 h3 h4) ⟨u, e, q u t G H (.refl wd) d hp⟩⟩
/-- a list that grows, read for the while -/
theorem JE.own (i : Nat) {x : Str} {enc : α → PyData} (t : List α) (hs : S[i]? = some (.l (t.map enc))) (hv : F.vis i x = true := by kernel_rfl) : JE T F (.Name x pos) S (eL enc) (pure t) :=
  ⟨fun X M σ G H C wd v P hp Q q => by
    obtain ⟨h1, h2, h3, h4⟩ := C.vis hv
    obtain ⟨u, e, d⟩ := v.at_ i _ hs
    exact toE (pe_var h1 h2 h3 h4) ⟨u, e, q u t G H (.refl wd) d hp⟩⟩
theorem JX.pool (i : Nat) {x : Str} (hs : S[i]? = some .p) (hv : F.vis i x = true := by kernel_rfl) : JX T F (.Name x pos) S (fun _ : Unit => .p) (pure ()) :=
  ⟨fun X M σ G H C wd v P hp Q q => by
    obtain ⟨h1, h2, h3, h4⟩ := C.vis hv
    obtain ⟨p, c, hm, e⟩ := v.at_ i _ hs
    exact toE (pe_var h1 h2 h3 h4) ⟨_, e, q _ () G H (.refl wd) ⟨p, c, hm, rfl⟩ hp⟩⟩
theorem JE.int {i : Int} {j} : JE T F (.Constant (.int i) j pos) S eI (pure i) := ⟨fun X M σ G H C wd v P hp Q q => toE pe_int (q _ i G H (.refl wd) (.int i) hp)⟩
theorem JE.bl {i : Bool} {j} : JE T F (.Constant (.bool i) j pos) S eB (pure i) := ⟨fun X M σ G H C wd v P hp Q q => toE pe_bl (q _ i G H (.refl wd) (.bl i) hp)⟩
theorem JE.str {i : Str} {j} : JE T F (.Constant (.str i) j pos) S eS (pure i) := ⟨fun X M σ G H C wd v P hp Q q => toE pe_str (q _ i G H (.refl wd) (.str i) hp)⟩
theorem JE.non {j} : JE T F (.Constant .none j pos) S eN (pure ()) := ⟨fun X M σ G H C wd v P hp Q q => toE pe_non (q _ () G H (.refl wd) .non hp)⟩
/-- None, some of it -/
theorem JX.noneO {enc : α → PyData} {w : W Unit} (h : JE T F e S eN w) : JE T F e S (eO enc) (w >>= fun _ => pure Option.none) := ⟨fun X M σ G H C wd v P hp Q q => h.run X M σ G H C wd v _ hp Q fun v t G2 H2 s d p => q v Option.none G2 H2 s d p⟩
theorem JX.someO {enc : α → PyData} {w : W α} (h : JE T F e S enc w) : JE T F e S (eO enc) (w >>= fun x => pure (Option.some x)) := ⟨fun X M σ G H C wd v P hp Q q => h.run X M σ G H C wd v _ hp Q fun v t G2 H2 s d p => q v (Option.some t) G2 H2 s d p⟩
/-- by another encoder -/
theorem JX.map {ea : α → PyData} {eb : β → PyData} {w : W α} (g : α → β) (h : JE T F e S ea w) (hg : ∀ t, ea t = eb (g t)) : JE T F e S eb (w >>= fun x => pure (g x)) := ⟨fun X M σ G H C wd v P hp Q q => h.run X M σ G H C wd v _ hp Q fun v t G2 H2 s d p => q v (g t) G2 H2 s (by show Dp _ _ _ _; rw [← hg]; exact d) p⟩
/-! two operands -/
theorem JX.two {ea : α → PyData} {eb : β → PyData} {wa : W α} {wb : W β} (ha : JE T F a S ea wa) (hb : JE T F b S eb wb) {X : Cx} {M : MS} {σ : St} {G H : Hp} (C : CxF T F X) (wd : Wd M G H) (v : View T M G σ S) {P : α → β → Prop} (hp : wa fun x => wb (P x)) {Q : V → V → Hp → Prop}
    (q : ∀ v u x y G2 H2, Stp M G H G2 H2 → Dp T.K G2 v (ea x) → Dp T.K G2 u (eb y) → P x y → Q v u H2) : rdE X a σ H fun v H1 => rdE X b σ H1 (Q v) :=
  ha.run X M σ G H C wd v _ hp _ fun v' x G2 H2 s d p => hb.run X M σ G2 H2 C s.wd (v.up s.gg) _ p _ fun u y G3 H3 s' d' p' => q v' u x y G3 H3 (s.trans s') (s'.gg.dp d) d' p'
theorem JE.op {op : Operator} {Cd : Int → Int → Prop} {g : Int → Int → Int} {wa wb : W Int} (ho : ∀ X : Cx, OpR X (binaryOp op) (rI Cd fun i j => .int (g i j))) (ha : JE T F a S eI wa) (hb : JE T F b S eI wb) : JE T F (.BinOp a op b pos) S eI (do let i ← wa; let j ← wb; gd (Cd i j); pure (g i j)) :=
  ⟨fun X M σ G H C wd v P hp Q q => toE (pe_op (ho X) (peR a) (peR b)) (JX.two ha hb C wd v (P := fun i j => Cd i j ∧ P (g i j)) hp fun v u x y G2 H2 s d1 d2 p => by
    cases d1; cases d2
    exact ⟨x, y, rfl, rfl, p.1, q _ _ G2 H2 s (.int _) p.2⟩)⟩
theorem JE.op0 {op : Operator} {g : Int → Int → Int} {wa wb : W Int} (ho : ∀ X : Cx, OpR X (binaryOp op) (rI0 fun i j => .int (g i j))) (ha : JE T F a S eI wa) (hb : JE T F b S eI wb) : JE T F (.BinOp a op b pos) S eI (do let i ← wa; let j ← wb; pure (g i j)) :=
  ⟨fun X M σ G H C wd v P hp Q q => toE (pe_op (ho X) (peR a) (peR b)) (JX.two ha hb C wd v (P := fun i j => P (g i j)) hp fun v u x y G2 H2 s d1 d2 p => by
    cases d1; cases d2
    exact ⟨x, y, rfl, rfl, q _ _ G2 H2 s (.int _) p⟩)⟩
theorem JE.add {wa wb : W Int} (ha : JE T F a S eI wa) (hb : JE T F b S eI wb) : JE T F (.BinOp a .Add b pos) S eI (do let i ← wa; let j ← wb; pure (i + j)) := JE.op0 (fun _ => op_add) ha hb
theorem JE.sub {wa wb : W Int} (ha : JE T F a S eI wa) (hb : JE T F b S eI wb) : JE T F (.BinOp a .Sub b pos) S eI (do let i ← wa; let j ← wb; pure (i - j)) := JE.op0 (fun _ => op_sub) ha hb
theorem JE.mul {wa wb : W Int} (ha : JE T F a S eI wa) (hb : JE T F b S eI wb) : JE T F (.BinOp a .Mult b pos) S eI (do let i ← wa; let j ← wb; gd (CMulW i j); pure (i * j)) := JE.op (fun _ => op_mulW) ha hb
theorem JE.mod {wa wb : W Int} (ha : JE T F a S eI wa) (hb : JE T F b S eI wb) : JE T F (.BinOp a .Mod b pos) S eI (do let i ← wa; let j ← wb; gd (0 < j); pure (i % j)) := JE.op (fun _ => op_mod) ha hb
theorem JE.div {wa wb : W Int} (ha : JE T F a S eI wa) (hb : JE T F b S eI wb) : JE T F (.BinOp a .FloorDiv b pos) S eI (do let i ← wa; let j ← wb; gd (CDivW i j); pure (i / j)) := JE.op (fun _ => op_fdivW) ha hb
theorem JE.pow {wa wb : W Int} (ha : JE T F a S eI wa) (hb : JE T F b S eI wb) : JE T F (.BinOp a .Pow b pos) S eI (do let i ← wa; let j ← wb; gd (CPow i j); pure (i ^ j.toNat)) := JE.op (fun _ => op_pow) ha hb
theorem JE.neg {wa : W Int} (ha : JE T F a S eI wa) : JE T F (.UnaryOp .USub a pos) S eI (do let i ← wa; pure (-i)) :=
  ⟨fun X M σ G H C wd v P hp Q q => toE (pe_un un_neg (peR a)) (ha.run X M σ G H C wd v _ hp _ fun v' i G2 H2 s d p => by cases d; exact ⟨i, rfl, q _ _ G2 H2 s (.int _) p⟩)⟩
/-! comparisons -/
theorem JE.cmp {op : CmpOp} {r : R2} {ea : α → PyData} {eb : β → PyData} {wa : W α} {wb : W β} {g : α → β → Bool} (ho : ∀ X : Cx, CxF T F X → OpR X (compareOp op) r) (hr : ∀ x y, RB T.K r (ea x) (eb y) (g x y)) (ha : JE T F a S ea wa) (hb : JE T F b S eb wb) (hm : behindInMarks op b = false := by first | exact nomark _ | rfl) : JE T F (.Compare a [op] [b] pos) S eB (do let x ← wa; let y ← wb; pure (g x y)) :=
  ⟨fun X M σ G H C wd v P hp Q q => toE (pe_cmpR (ho X C) (peR a) (peR b) hm) (JX.two ha hb C wd v (P := fun i j => P (g i j)) hp fun v u x y G2 H2 s d1 d2 p => hr x y v u G2 H2 _ s.wd.gh d1 d2 (q _ _ G2 H2 s (.bl _) p))⟩
theorem JT.cmp {op : CmpOp} {r : R2} {ea : α → PyData} {eb : β → PyData} {wa : W α} {wb : W β} {g : α → β → Bool} (ho : ∀ X : Cx, CxF T F X → OpR X (compareOp op) r) (hr : ∀ x y, RB T.K r (ea x) (eb y) (g x y)) (ha : JE T F a S ea wa) (hb : JE T F b S eb wb) (hm : behindInMarks op b = false := by first | exact nomark _ | rfl) : JT T F (.Compare a [op] [b] pos) S (do let x ← wa; let y ← wb; pure (g x y)) :=
  ⟨fun X M σ G H C wd v P hp Q q => toT (pt_cmpR (ho X C) (peR a) (peR b) hm) (JX.two ha hb C wd v (P := fun i j => P (g i j)) hp fun v u x y G2 H2 s d1 d2 p => hr x y v u G2 H2 _ s.wd.gh d1 d2 ⟨_, rfl, q _ G2 H2 s p⟩)⟩
end
end DW
namespace DW
open PySem L2 PL
/-! what encoders are -/
section
variable {α β γ δ : Type}
theorem canAll {xs : List PyData} (h : ∀ d ∈ xs, d.canLay0 = true) : PyData.canLayAll0 xs = true := by
  induction xs with
  | nil => rfl
  | cons d ds ih => rw [PyData.canLayAll0, h d List.mem_cons_self, ih fun e he => h e (List.mem_cons_of_mem _ he)] <;> rfl
theorem depAll {n : Nat} {xs : List PyData} (h : ∀ d ∈ xs, d.depth ≤ n) : PyData.depthAll xs ≤ n := by
  induction xs with
  | nil => rw [PyData.depthAll]; exact Nat.zero_le _
  | cons d ds ih =>
    have h1 := h d List.mem_cons_self
    have h2 := ih fun e he => h e (List.mem_cons_of_mem _ he)
    rw [PyData.depthAll]
    omega
/-- data that may be compared; n bounds its depth -/
class EncD (e : α → PyData) (n : outParam Nat) : Prop where
  can : ∀ t, (e t).canLay0 = true
  dep : ∀ t, (e t).depth ≤ n
theorem dp1 {d : PyData} (h : d = .none ∨ (∃ b, d = .bool b) ∨ (∃ i, d = .int i) ∨ ∃ s, d = .str s) : d.depth ≤ 1 := by
  rcases h with rfl | ⟨_, rfl⟩ | ⟨_, rfl⟩ | ⟨_, rfl⟩ <;> (rw [PyData.depth] <;> first | omega | (intros; simp_all))
theorem dpT {xs : List PyData} {n : Nat} (h : ∀ d ∈ xs, d.depth ≤ n) : (PyData.tuple xs).depth ≤ n + 1 := by
  rw [PyData.depth]; have := depAll h; omega
theorem dpL {xs : List PyData} {n : Nat} (h : ∀ d ∈ xs, d.depth ≤ n) : (PyData.list xs).depth ≤ n + 1 := by
  rw [PyData.depth]; have := depAll h; omega
instance : EncD eI 1 := ⟨fun _ => rfl, fun i => dp1 (.inr (.inr (.inl ⟨i, rfl⟩)))⟩
instance : EncD eB 1 := ⟨fun _ => rfl, fun i => dp1 (.inr (.inl ⟨i, rfl⟩))⟩
instance : EncD eN 1 := ⟨fun _ => rfl, fun i => dp1 (.inl rfl)⟩
instance {e : α → PyData} {n : Nat} [h : EncD e n] : EncD (eT e) (n + 1) := ⟨fun t => by
    show (PyData.tuple _).canLay0 = true
    rw [PyData.canLay0]; exact canAll fun d hd => by obtain ⟨x, _, rfl⟩ := List.mem_map.mp hd; exact h.can x, fun t => dpT fun d hd => by obtain ⟨x, _, rfl⟩ := List.mem_map.mp hd; exact h.dep x⟩
instance {e : α → PyData} {n : Nat} [h : EncD e n] : EncD (eL e) (n + 1) := ⟨fun t => by
    show (PyData.list _).canLay0 = true
    rw [PyData.canLay0]; exact canAll fun d hd => by obtain ⟨x, _, rfl⟩ := List.mem_map.mp hd; exact h.can x, fun t => dpL fun d hd => by obtain ⟨x, _, rfl⟩ := List.mem_map.mp hd; exact h.dep x⟩
instance {a : α → PyData} {b : β → PyData} {n m : Nat} [h : EncD a n] [k : EncD b m] : EncD (eP a b) (n + m + 1) := ⟨fun t => by
    show (PyData.tuple _).canLay0 = true
    rw [PyData.canLay0]; exact canAll fun d hd => by simp at hd; rcases hd with rfl | rfl; exact h.can _; exact k.can _,
  fun t => dpT fun d hd => by simp at hd; rcases hd with rfl | rfl; (have := h.dep t.1; omega); (have := k.dep t.2; omega)⟩
instance {a : α → PyData} {b : β → PyData} {c : γ → PyData} {n m l : Nat} [h : EncD a n] [k : EncD b m] [j : EncD c l] : EncD (eP3 a b c) (n + m + l + 1) := ⟨fun t => by
    show (PyData.tuple _).canLay0 = true
    rw [PyData.canLay0]; exact canAll fun d hd => by simp at hd; rcases hd with rfl | rfl | rfl; exact h.can _; exact k.can _; exact j.can _,
  fun t => dpT fun d hd => by simp at hd; rcases hd with rfl | rfl | rfl; (have := h.dep t.1; omega); (have := k.dep t.2.1; omega); (have := j.dep t.2.2; omega)⟩
instance {a : α → PyData} {n : Nat} [h : EncD a n] : EncD (eO a) (n + 1) := ⟨fun t => by cases t; rfl; exact h.can _, fun t => by
  cases t with
  | none => have := dp1 (d := .none) (.inl rfl); show PyData.depth .none ≤ _; omega
  | some x => have := h.dep x; show (a x).depth ≤ _; omega⟩
theorem EncD.shaped {e : α → PyData} {n : Nat} [h : EncD e n] (hn : n ≤ 64) (t : α) : SeqAt.shaped (e t) = true := by
  unfold SeqAt.shaped; rw [h.can t, decide_eq_true (Nat.le_trans (h.dep t) hn)] <;> rfl
/-- equal data: equal -/
class EncQ (e : α → PyData) [DecidableEq α] : Prop where
  eq : ∀ x y, PyData.eqv (e x) (e y) = decide (x = y)
theorem beq_dec {κ : Type} [DecidableEq κ] [BEq κ] [LawfulBEq κ] (a b : κ) : (a == b) = decide (a = b) := by
  rw [Bool.eq_iff_iff]; simp
instance : EncQ eI := ⟨fun x y => by show PyData.eqv (.int x) (.int y) = _; rw [PyData.eqv]; exact beq_dec _ _⟩
instance : EncQ eB := ⟨fun x y => by show PyData.eqv (.bool x) (.bool y) = _; rw [PyData.eqv]; exact beq_dec _ _⟩
instance : EncQ eS := ⟨fun x y => by show PyData.eqv (.str x) (.str y) = _; rw [PyData.eqv]; exact beq_dec _ _⟩
instance : EncQ eN := ⟨fun x y => by show PyData.eqv .none .none = _; rw [PyData.eqv]; rfl⟩
theorem eqvAll_map [DecidableEq α] {e : α → PyData} [h : EncQ e] : ∀ xs ys : List α, PyData.eqvAll (xs.map e) (ys.map e) = decide (xs = ys)
  | [], [] => by rw [List.map_nil, PyData.eqvAll]; rfl
  | [], _ :: _ => by rw [List.map_nil, List.map_cons, PyData.eqvAll]; simp
  | _ :: _, [] => by rw [List.map_nil, List.map_cons, PyData.eqvAll]; simp
  | x :: xs, y :: ys => by rw [List.map_cons, List.map_cons, PyData.eqvAll, h.eq, eqvAll_map xs ys]; simp
instance [DecidableEq α] {e : α → PyData} [h : EncQ e] : EncQ (eT e) := ⟨fun x y => by show PyData.eqv (.tuple _) (.tuple _) = _; rw [PyData.eqv]; exact eqvAll_map _ _⟩
instance [DecidableEq α] {e : α → PyData} [h : EncQ e] : EncQ (eL e) := ⟨fun x y => by show PyData.eqv (.list _) (.list _) = _; rw [PyData.eqv]; exact eqvAll_map _ _⟩
instance [DecidableEq α] [DecidableEq β] {a : α → PyData} {b : β → PyData} [h : EncQ a] [k : EncQ b] : EncQ (eP a b) := ⟨fun x y => by
  show PyData.eqv (.tuple _) (.tuple _) = _
  rw [PyData.eqv, PyData.eqvAll, PyData.eqvAll, PyData.eqvAll, h.eq, k.eq]
  obtain ⟨x1, x2⟩ := x; obtain ⟨y1, y2⟩ := y
  simp⟩
instance [DecidableEq α] [DecidableEq β] [DecidableEq γ] {a : α → PyData} {b : β → PyData} {c : γ → PyData} [h : EncQ a] [k : EncQ b] [j : EncQ c] : EncQ (eP3 a b c) := ⟨fun x y => by
  show PyData.eqv (.tuple _) (.tuple _) = _
  rw [PyData.eqv, PyData.eqvAll, PyData.eqvAll, PyData.eqvAll, PyData.eqvAll, h.eq, k.eq, j.eq]
  obtain ⟨x1, x2, x3⟩ := x; obtain ⟨y1, y2, y3⟩ := y
  simp⟩
/-- never None -/
class EncS (e : α → PyData) : Prop where
  no : ∀ t, e t ≠ .none
instance : EncS eI := ⟨fun _ h => by cases h⟩
instance : EncS eB := ⟨fun _ h => by cases h⟩
instance : EncS eS := ⟨fun _ h => by cases h⟩
instance {e : α → PyData} : EncS (eT e) := ⟨fun _ h => by cases h⟩
instance {e : α → PyData} : EncS (eL e) := ⟨fun _ h => by cases h⟩
instance {a : α → PyData} {b : β → PyData} : EncS (eP a b) := ⟨fun _ h => by cases h⟩
instance {a : α → PyData} {b : β → PyData} {c : γ → PyData} : EncS (eP3 a b c) := ⟨fun _ h => by cases h⟩
instance {a : α → PyData} {b : β → PyData} {c : γ → PyData} {d : δ → PyData} : EncS (eP4 a b c d) := ⟨fun _ h => by cases h⟩
/-- lists nowhere -/
def flatD : PyData → Bool
  | .list _ => false
  | .dict _ => false
  | .tuple xs => flatAll xs
  | _ => true
where flatAll : List PyData → Bool
  | [] => true
  | x :: xs => flatD x && flatAll xs
theorem flatAll_of {xs : List PyData} (h : ∀ d ∈ xs, flatD d = true) : flatD.flatAll xs = true := by
  induction xs with
  | nil => rfl
  | cons d ds ih => rw [flatD.flatAll, h d List.mem_cons_self, ih fun e he => h e (List.mem_cons_of_mem _ he)] <;> rfl
class EncF (e : α → PyData) : Prop where
  fl : ∀ t, flatD (e t) = true
instance : EncF eI := ⟨fun _ => rfl⟩
instance : EncF eB := ⟨fun _ => rfl⟩
instance : EncF eS := ⟨fun _ => rfl⟩
instance : EncF eN := ⟨fun _ => rfl⟩
instance {e : α → PyData} [h : EncF e] : EncF (eT e) := ⟨fun t => flatAll_of fun d hd => by obtain ⟨x, _, rfl⟩ := List.mem_map.mp hd; exact h.fl x⟩
instance {a : α → PyData} {b : β → PyData} [h : EncF a] [k : EncF b] : EncF (eP a b) := ⟨fun t => flatAll_of fun d hd => by simp at hd; rcases hd with rfl | rfl; exact h.fl _; exact k.fl _⟩
instance {a : α → PyData} {b : β → PyData} {c : γ → PyData} [h : EncF a] [k : EncF b] [j : EncF c] : EncF (eP3 a b c) := ⟨fun t => flatAll_of fun d hd => by simp at hd; rcases hd with rfl | rfl | rfl; exact h.fl _; exact k.fl _; exact j.fl _⟩
instance {a : α → PyData} [h : EncF a] : EncF (eO a) := ⟨fun t => by cases t; rfl; exact h.fl _⟩
end
section
variable {T : Tx} {F : Fr} {S : List Sl} {α β γ : Type} {e a b c : Expr} {es : List Expr} {pos : Pos}
theorem JE.eqS {wa wb : W Str} (ha : JE T F a S eS wa) (hb : JE T F b S eS wb) : JE T F (.Compare a [.Eq] [b] pos) S eB (do let x ← wa; let y ← wb; pure (decide (x = y))) := JE.cmp (fun X C => op_eq) (fun x y => rb_eqS) ha hb
theorem JE.neS {wa wb : W Str} (ha : JE T F a S eS wa) (hb : JE T F b S eS wb) : JE T F (.Compare a [.NotEq] [b] pos) S eB (do let x ← wa; let y ← wb; pure (!decide (x = y))) := JE.cmp (fun X C => op_ne) (fun x y => rb_neS) ha hb
theorem JT.eqS {wa wb : W Str} (ha : JE T F a S eS wa) (hb : JE T F b S eS wb) : JT T F (.Compare a [.Eq] [b] pos) S (do let x ← wa; let y ← wb; pure (decide (x = y))) := JT.cmp (fun X C => op_eq) (fun x y => rb_eqS) ha hb
theorem JT.neS {wa wb : W Str} (ha : JE T F a S eS wa) (hb : JE T F b S eS wb) : JT T F (.Compare a [.NotEq] [b] pos) S (do let x ← wa; let y ← wb; pure (!decide (x = y))) := JT.cmp (fun X C => op_ne) (fun x y => rb_neS) ha hb
/-! comparisons -/
theorem JE.lt {wa wb : W Int} (ha : JE T F a S eI wa) (hb : JE T F b S eI wb) : JE T F (.Compare a [.Lt] [b] pos) S eB (do let x ← wa; let y ← wb; pure (decide (x < y))) := JE.cmp (fun _ _ => op_lt) (fun _ _ => rb_lt) ha hb
theorem JE.le {wa wb : W Int} (ha : JE T F a S eI wa) (hb : JE T F b S eI wb) : JE T F (.Compare a [.LtE] [b] pos) S eB (do let x ← wa; let y ← wb; pure (decide (x ≤ y))) := JE.cmp (fun _ _ => op_le) (fun _ _ => rb_le) ha hb
theorem JE.gt {wa wb : W Int} (ha : JE T F a S eI wa) (hb : JE T F b S eI wb) : JE T F (.Compare a [.Gt] [b] pos) S eB (do let x ← wa; let y ← wb; pure (decide (y < x))) := JE.cmp (fun _ _ => op_gt) (fun _ _ => rb_gt) ha hb
theorem JE.ge {wa wb : W Int} (ha : JE T F a S eI wa) (hb : JE T F b S eI wb) : JE T F (.Compare a [.GtE] [b] pos) S eB (do let x ← wa; let y ← wb; pure (decide (y ≤ x))) := JE.cmp (fun _ _ => op_ge) (fun _ _ => rb_ge) ha hb
theorem JT.lt {wa wb : W Int} (ha : JE T F a S eI wa) (hb : JE T F b S eI wb) : JT T F (.Compare a [.Lt] [b] pos) S (do let x ← wa; let y ← wb; pure (decide (x < y))) := JT.cmp (fun _ _ => op_lt) (fun _ _ => rb_lt) ha hb
theorem JT.le {wa wb : W Int} (ha : JE T F a S eI wa) (hb : JE T F b S eI wb) : JT T F (.Compare a [.LtE] [b] pos) S (do let x ← wa; let y ← wb; pure (decide (x ≤ y))) := JT.cmp (fun _ _ => op_le) (fun _ _ => rb_le) ha hb
theorem JT.gt {wa wb : W Int} (ha : JE T F a S eI wa) (hb : JE T F b S eI wb) : JT T F (.Compare a [.Gt] [b] pos) S (do let x ← wa; let y ← wb; pure (decide (y < x))) := JT.cmp (fun _ _ => op_gt) (fun _ _ => rb_gt) ha hb
theorem JT.ge {wa wb : W Int} (ha : JE T F a S eI wa) (hb : JE T F b S eI wb) : JT T F (.Compare a [.GtE] [b] pos) S (do let x ← wa; let y ← wb; pure (decide (y ≤ x))) := JT.cmp (fun _ _ => op_ge) (fun _ _ => rb_ge) ha hb
section
variable [DecidableEq α] {enc : α → PyData} {n : Nat} [EncD enc n] [EncQ enc] {wa wb : W α}
theorem JE.eq (ha : JE T F a S enc wa) (hb : JE T F b S enc wb) (hn : n ≤ 64 := by decide) : JE T F (.Compare a [.Eq] [b] pos) S eB (do let x ← wa; let y ← wb; pure (decide (x = y))) :=
  JE.cmp (fun X C => C.K ▸ op_eqD C.hu) (fun x y => by rw [← EncQ.eq (e := enc) x y]; exact (rb_eqD (EncD.shaped (n := n) hn x) (EncD.shaped (n := n) hn y))) ha hb
theorem JE.ne (ha : JE T F a S enc wa) (hb : JE T F b S enc wb) (hn : n ≤ 64 := by decide) : JE T F (.Compare a [.NotEq] [b] pos) S eB (do let x ← wa; let y ← wb; pure (!decide (x = y))) :=
  JE.cmp (fun X C => C.K ▸ op_neD C.hu) (fun x y => by rw [← EncQ.eq (e := enc) x y]; exact (rb_neD (EncD.shaped (n := n) hn x) (EncD.shaped (n := n) hn y))) ha hb
theorem JT.eq (ha : JE T F a S enc wa) (hb : JE T F b S enc wb) (hn : n ≤ 64 := by decide) : JT T F (.Compare a [.Eq] [b] pos) S (do let x ← wa; let y ← wb; pure (decide (x = y))) :=
  JT.cmp (fun X C => C.K ▸ op_eqD C.hu) (fun x y => by rw [← EncQ.eq (e := enc) x y]; exact (rb_eqD (EncD.shaped (n := n) hn x) (EncD.shaped (n := n) hn y))) ha hb
theorem JT.ne (ha : JE T F a S enc wa) (hb : JE T F b S enc wb) (hn : n ≤ 64 := by decide) : JT T F (.Compare a [.NotEq] [b] pos) S (do let x ← wa; let y ← wb; pure (!decide (x = y))) :=
  JT.cmp (fun X C => C.K ▸ op_neD C.hu) (fun x y => by rw [← EncQ.eq (e := enc) x y]; exact (rb_neD (EncD.shaped (n := n) hn x) (EncD.shaped (n := n) hn y))) ha hb
end
end
end DW
namespace DW
open PySem L2 PL
section
variable {T : Tx} {F : Fr} {S : List Sl} {α β γ δ ε : Type} {e a b c : Expr} {es rest : List Expr} {pos : Pos}
/-! in -/
theorem JE.inT {wa : W Int} {wb : W (List Int)} (ha : JE T F a S eI wa) (hb : JE T F b S (eT eI) wb) (hm : behindInMarks .In b = false := by first | exact nomark _ | rfl) : JE T F (.Compare a [.In] [b] pos) S eB (do let x ← wa; let y ← wb; pure (decide (x ∈ y))) := JE.cmp (fun X C => C.K ▸ op_in_seq) (fun _ _ => rb_inT) ha hb hm
theorem JE.inL {wa : W Int} {wb : W (List Int)} (ha : JE T F a S eI wa) (hb : JE T F b S (eL eI) wb) (hm : behindInMarks .In b = false := by first | exact nomark _ | rfl) : JE T F (.Compare a [.In] [b] pos) S eB (do let x ← wa; let y ← wb; pure (decide (x ∈ y))) := JE.cmp (fun X C => C.K ▸ op_in_seq) (fun _ _ => rb_inL) ha hb hm
theorem JE.niT {wa : W Int} {wb : W (List Int)} (ha : JE T F a S eI wa) (hb : JE T F b S (eT eI) wb) (hm : behindInMarks .NotIn b = false := by first | exact nomark _ | rfl) : JE T F (.Compare a [.NotIn] [b] pos) S eB (do let x ← wa; let y ← wb; pure (!decide (x ∈ y))) := JE.cmp (fun X C => C.K ▸ op_notIn_seq) (fun _ _ => rb_niT) ha hb hm
theorem JE.niL {wa : W Int} {wb : W (List Int)} (ha : JE T F a S eI wa) (hb : JE T F b S (eL eI) wb) (hm : behindInMarks .NotIn b = false := by first | exact nomark _ | rfl) : JE T F (.Compare a [.NotIn] [b] pos) S eB (do let x ← wa; let y ← wb; pure (!decide (x ∈ y))) := JE.cmp (fun X C => C.K ▸ op_notIn_seq) (fun _ _ => rb_niL) ha hb hm
theorem JT.inT {wa : W Int} {wb : W (List Int)} (ha : JE T F a S eI wa) (hb : JE T F b S (eT eI) wb) (hm : behindInMarks .In b = false := by first | exact nomark _ | rfl) : JT T F (.Compare a [.In] [b] pos) S (do let x ← wa; let y ← wb; pure (decide (x ∈ y))) := JT.cmp (fun X C => C.K ▸ op_in_seq) (fun _ _ => rb_inT) ha hb hm
theorem JT.inL {wa : W Int} {wb : W (List Int)} (ha : JE T F a S eI wa) (hb : JE T F b S (eL eI) wb) (hm : behindInMarks .In b = false := by first | exact nomark _ | rfl) : JT T F (.Compare a [.In] [b] pos) S (do let x ← wa; let y ← wb; pure (decide (x ∈ y))) := JT.cmp (fun X C => C.K ▸ op_in_seq) (fun _ _ => rb_inL) ha hb hm
theorem JT.niT {wa : W Int} {wb : W (List Int)} (ha : JE T F a S eI wa) (hb : JE T F b S (eT eI) wb) (hm : behindInMarks .NotIn b = false := by first | exact nomark _ | rfl) : JT T F (.Compare a [.NotIn] [b] pos) S (do let x ← wa; let y ← wb; pure (!decide (x ∈ y))) := JT.cmp (fun X C => C.K ▸ op_notIn_seq) (fun _ _ => rb_niT) ha hb hm
theorem JT.niL {wa : W Int} {wb : W (List Int)} (ha : JE T F a S eI wa) (hb : JE T F b S (eL eI) wb) (hm : behindInMarks .NotIn b = false := by first | exact nomark _ | rfl) : JT T F (.Compare a [.NotIn] [b] pos) S (do let x ← wa; let y ← wb; pure (!decide (x ∈ y))) := JT.cmp (fun X C => C.K ▸ op_notIn_seq) (fun _ _ => rb_niL) ha hb hm
section
variable [DecidableEq α] {enc : α → PyData} {n : Nat} [EncD enc n] [EncQ enc] {wa : W α} {wb : W (List α)}
/-- is x in the list: by the kind's own equality -/
def memD {α : Type} [DecidableEq α] (x : α) (ys : List α) : Bool := decide (x ∈ ys)
theorem any_enc (x : α) (ys : List α) : ((ys.map enc).any fun z => PyData.eqv z (enc x)) = memD x ys := by
  show _ = decide (x ∈ ys)
  rw [List.any_map, Bool.eq_iff_iff]
  simp only [List.any_eq_true, Function.comp, EncQ.eq, decide_eq_true_eq]
  exact ⟨fun ⟨y, h1, h2⟩ => h2 ▸ h1, fun h => ⟨x, h, rfl⟩⟩
theorem room65 {X : Cx} (C : CxF T F X) : X.A.units + 65 < cLine := by have := C.room.un; omega
theorem rb_niD {K : PySem.W.Frag} {d : D} {ds : List D} (h1 : SeqAt.shaped d = true) (h2 : SeqAt.shaped (.list ds) = true) : RB K (rNotInD K) d (.list ds) (!ds.any fun z => PyData.eqv z d) := fun x y G H Q gh a b q => ⟨d, ds, gh.dp a, gh.dp b, h1, h2, q⟩
/-- data in a list of such -/
theorem JE.inD (ha : JE T F a S enc wa) (hb : JE T F b S (eL enc) wb) (hn : n ≤ 32 := by decide) (hm : behindInMarks .In b = false := by first | exact nomark _ | rfl) : JE T F (.Compare a [.In] [b] pos) S eB (do let x ← wa; let y ← wb; pure (memD x y)) :=
  JE.cmp (fun X C => C.K ▸ op_inD (room65 C)) (fun x y => by rw [← any_enc (enc := enc) x y]; exact rb_inD (EncD.shaped (n := n) (by omega) x) (EncD.shaped (e := eL enc) (n := n + 1) (by omega) y)) ha hb hm
theorem JT.inD (ha : JE T F a S enc wa) (hb : JE T F b S (eL enc) wb) (hn : n ≤ 32 := by decide) (hm : behindInMarks .In b = false := by first | exact nomark _ | rfl) : JT T F (.Compare a [.In] [b] pos) S (do let x ← wa; let y ← wb; pure (memD x y)) :=
  JT.cmp (fun X C => C.K ▸ op_inD (room65 C)) (fun x y => by rw [← any_enc (enc := enc) x y]; exact rb_inD (EncD.shaped (n := n) (by omega) x) (EncD.shaped (e := eL enc) (n := n + 1) (by omega) y)) ha hb hm
theorem JE.niD (ha : JE T F a S enc wa) (hb : JE T F b S (eL enc) wb) (hn : n ≤ 32 := by decide) (hm : behindInMarks .NotIn b = false := by first | exact nomark _ | rfl) : JE T F (.Compare a [.NotIn] [b] pos) S eB (do let x ← wa; let y ← wb; pure (!memD x y)) :=
  JE.cmp (fun X C => C.K ▸ op_notInD (room65 C)) (fun x y => by rw [← any_enc (enc := enc) x y]; exact rb_niD (EncD.shaped (n := n) (by omega) x) (EncD.shaped (e := eL enc) (n := n + 1) (by omega) y)) ha hb hm
theorem JT.niD (ha : JE T F a S enc wa) (hb : JE T F b S (eL enc) wb) (hn : n ≤ 32 := by decide) (hm : behindInMarks .NotIn b = false := by first | exact nomark _ | rfl) : JT T F (.Compare a [.NotIn] [b] pos) S (do let x ← wa; let y ← wb; pure (!memD x y)) :=
  JT.cmp (fun X C => C.K ▸ op_notInD (room65 C)) (fun x y => by rw [← any_enc (enc := enc) x y]; exact rb_niD (EncD.shaped (n := n) (by omega) x) (EncD.shaped (e := eL enc) (n := n + 1) (by omega) y)) ha hb hm
end
/-! is None -/
theorem isN_enc {enc : α → PyData} [EncS enc] {K : PySem.W.Frag} {G : Hp} {v : V} {t : Option α} (h : Dp K G v (eO enc t)) : decide (v = V.non) = t.isNone := by
  cases t with
  | none => cases h; rfl
  | some x =>
    have : Dp K G v (enc x) := h
    have n := EncS.no (e := enc) x
    cases hx : enc x <;> rw [hx] at this n <;> first | (exact absurd rfl n) | (cases this <;> rfl)
theorem JE.isN {enc : α → PyData} [EncS enc] {w : W (Option α)} {j} {p2 : Pos} (ha : JE T F a S (eO enc) w) : JE T F (.Compare a [.Is] [.Constant .none j p2] pos) S eB (do let x ← w; pure x.isNone) :=
  ⟨fun X M σ G H C wd v P hp Q q => toE (pe_cmp (pc_isN (peR a))) (ha.run X M σ G H C wd v _ hp _ fun v t G2 H2 s d p => by rw [isN_enc d]; exact q _ _ G2 H2 s (.bl _) p)⟩
theorem JT.isN {enc : α → PyData} [EncS enc] {w : W (Option α)} {j} {p2 : Pos} (ha : JE T F a S (eO enc) w) : JT T F (.Compare a [.Is] [.Constant .none j p2] pos) S (do let x ← w; pure x.isNone) :=
  ⟨fun X M σ G H C wd v P hp Q q => toT (pt_cmp (pc_isN (peR a))) (ha.run X M σ G H C wd v _ hp _ fun v t G2 H2 s d p => by rw [isN_enc d]; exact ⟨_, rfl, q _ G2 H2 s p⟩)⟩
theorem JE.notN {enc : α → PyData} [EncS enc] {w : W (Option α)} {j} {p2 : Pos} (ha : JE T F a S (eO enc) w) : JE T F (.Compare a [.IsNot] [.Constant .none j p2] pos) S eB (do let x ← w; pure x.isSome) :=
  ⟨fun X M σ G H C wd v P hp Q q => toE (pe_cmp (pc_notN (peR a))) (ha.run X M σ G H C wd v _ hp _ fun v t G2 H2 s d p => by show Q (.bl (!decide (v = V.non))) H2; rw [isN_enc d, ← Option.not_isSome, Bool.not_not]; exact q _ _ G2 H2 s (.bl _) p)⟩
theorem JT.notN {enc : α → PyData} [EncS enc] {w : W (Option α)} {j} {p2 : Pos} (ha : JE T F a S (eO enc) w) : JT T F (.Compare a [.IsNot] [.Constant .none j p2] pos) S (do let x ← w; pure x.isSome) :=
  ⟨fun X M σ G H C wd v P hp Q q => toT (pt_cmp (pc_notN (peR a))) (ha.run X M σ G H C wd v _ hp _ fun v t G2 H2 s d p => ⟨_, by rw [isN_enc d, ← Option.not_isSome, Bool.not_not], q _ G2 H2 s p⟩)⟩
/-! tests -/
theorem JT.val {w : W Bool} (h : JE T F e S eB w) (he : ∀ env whole, isTrue e env whole = (do let v ← whole; standAt e.pos; holding [v] (truthy v)) := by intro _ _; rfl) : JT T F e S w :=
  ⟨fun X M σ G H C wd v P hp Q q => toT (pt_val (peR e) (he _)) (h.run X M σ G H C wd v _ hp _ fun v t G2 H2 s d p => by cases d; exact ⟨t, rfl, q _ G2 H2 s p⟩)⟩
theorem JT.not {w : W Bool} (h : JT T F a S w) : JT T F (.UnaryOp .Not a pos) S (do let x ← w; pure (!x)) :=
  ⟨fun X M σ G H C wd v P hp Q q => toT (pt_not (ptR a)) (h.run X M σ G H C wd v _ hp _ fun t G2 H2 s p => q _ G2 H2 s p)⟩
structure JW (T : Tx) (F : Fr) (e : Expr) (S : List Sl) (w : W Bool) : Prop where
  run : ∀ X : Cx, CxF T F X → ∃ t, PW X e t ∧ ∀ (M : MS) (σ : St) (G H : Hp), Wd M G H → View T M G σ S → ∀ P : Bool → Prop, w P → ∀ Q : Bool → Hp → Prop, (∀ t G2 H2, Stp M G H G2 H2 → P t → Q t H2) → t σ H Q
theorem JW.t {w : W Bool} (h : JW T F e S w) : JT T F e S w := ⟨fun X M σ G H C wd v P hp Q q => by
  obtain ⟨t, p, f⟩ := h.run X C
  exact toT p.pt (f M σ G H wd v P hp Q q)⟩
theorem JW.and1 {w : W Bool} (h : JT T F a S w) : JW T F (.BoolOp .And [a] pos) S w := ⟨fun X C => ⟨_, pw_and1 (ptR a), fun M σ G H wd v P hp Q q => h.run X M σ G H C wd v P hp Q q⟩⟩
theorem JW.or1 {w : W Bool} (h : JT T F a S w) : JW T F (.BoolOp .Or [a] pos) S w := ⟨fun X C => ⟨_, pw_or1 (ptR a), fun M σ G H wd v P hp Q q => h.run X M σ G H C wd v P hp Q q⟩⟩
theorem JW.and {w1 w2 : W Bool} (h : JT T F a S w1) (h2 : JW T F (.BoolOp .And (b :: rest) pos) S w2) : JW T F (.BoolOp .And (a :: b :: rest) pos) S (do let x ← w1; if x then w2 else pure false) := ⟨fun X C => by
  obtain ⟨t, p, f⟩ := h2.run X C
  refine ⟨_, pw_and (ptR a) p, fun M σ G H wd v P hp Q q => h.run X M σ G H C wd v _ hp _ fun u G2 H2 s pu => ?_⟩
  cases u with
  | true => exact iteT (f M σ G2 H2 s.wd (v.up s.gg) P pu Q fun t' G3 H3 s' r => q t' G3 H3 (s.trans s') r)
  | false => exact iteF (q false G2 H2 s pu)⟩
theorem JW.or {w1 w2 : W Bool} (h : JT T F a S w1) (h2 : JW T F (.BoolOp .Or (b :: rest) pos) S w2) : JW T F (.BoolOp .Or (a :: b :: rest) pos) S (do let x ← w1; if x then pure true else w2) := ⟨fun X C => by
  obtain ⟨t, p, f⟩ := h2.run X C
  refine ⟨_, pw_or (ptR a) p, fun M σ G H wd v P hp Q q => h.run X M σ G H C wd v _ hp _ fun u G2 H2 s pu => ?_⟩
  cases u with
  | false => exact iteF (f M σ G2 H2 s.wd (v.up s.gg) P pu Q fun t' G3 H3 s' r => q t' G3 H3 (s.trans s') r)
  | true => exact iteT (q true G2 H2 s pu)⟩
/-! and, or, not as values -/
theorem JE.one {op} {w : W Bool} (h : JE T F a S eB w) : JE T F (.BoolOp op [a] pos) S eB w := ⟨fun X M σ G H C wd v P hp Q q => toE (pe_one (peR a)) (h.run X M σ G H C wd v P hp Q q)⟩
theorem JE.and {w1 w2 : W Bool} (h : JE T F a S eB w1) (h2 : JE T F (.BoolOp .And (b :: rest) pos) S eB w2) : JE T F (.BoolOp .And (a :: b :: rest) pos) S eB (do let x ← w1; if x then w2 else pure false) := ⟨fun X M σ G H C wd v P hp Q q =>
  toE (pe_and (peR a) (peR _)) (h.run X M σ G H C wd v _ hp _ fun v' u G2 H2 s d pu => by
    cases d
    refine ⟨u, rfl, ?_⟩
    cases u with
    | true => exact iteT (h2.run X M σ G2 H2 C s.wd (v.up s.gg) P pu Q fun v' t' G3 H3 s' d r => q v' t' G3 H3 (s.trans s') d r)
    | false => exact iteF (q _ false G2 H2 s (.bl _) pu))⟩
theorem JE.or {w1 w2 : W Bool} (h : JE T F a S eB w1) (h2 : JE T F (.BoolOp .Or (b :: rest) pos) S eB w2) : JE T F (.BoolOp .Or (a :: b :: rest) pos) S eB (do let x ← w1; if x then pure true else w2) := ⟨fun X M σ G H C wd v P hp Q q =>
  toE (pe_or (peR a) (peR _)) (h.run X M σ G H C wd v _ hp _ fun v' u G2 H2 s d pu => by
    cases d
    refine ⟨u, rfl, ?_⟩
    cases u with
    | false => exact iteF (h2.run X M σ G2 H2 C s.wd (v.up s.gg) P pu Q fun v' t' G3 H3 s' d r => q v' t' G3 H3 (s.trans s') d r)
    | true => exact iteT (q _ true G2 H2 s (.bl _) pu))⟩
theorem JE.not {w : W Bool} (h : JE T F a S eB w) : JE T F (.UnaryOp .Not a pos) S eB (do let x ← w; pure (!x)) :=
  ⟨fun X M σ G H C wd v P hp Q q => toE (pe_not (peR a)) (h.run X M σ G H C wd v _ hp _ fun v' u G2 H2 s d p => by cases d; exact ⟨u, rfl, q _ _ G2 H2 s (.bl _) p⟩)⟩
theorem JE.ite {enc : α → PyData} {wc : W Bool} {w1 w2 : W α} (h : JT T F c S wc) (h1 : JE T F a S enc w1) (h2 : JE T F b S enc w2) : JE T F (.IfExp c a b pos) S enc (do let x ← wc; if x then w1 else w2) := ⟨fun X M σ G H C wd v P hp Q q =>
  toE (pe_ifExp (ptR c) (peR a) (peR b)) (h.run X M σ G H C wd v _ hp _ fun u G2 H2 s pu => by
    cases u with
    | true => exact iteT (h1.run X M σ G2 H2 C s.wd (v.up s.gg) P pu Q fun v' t' G3 H3 s' d r => q v' t' G3 H3 (s.trans s') d r)
    | false => exact iteF (h2.run X M σ G2 H2 C s.wd (v.up s.gg) P pu Q fun v' t' G3 H3 s' d r => q v' t' G3 H3 (s.trans s') d r))⟩
/-- a op b op' c, of ints -/
theorem JX.chainAux {op op' : CmpOp} {g g' : Int → Int → Bool} {wa wb wc : W Int} (ho : ∀ X : Cx, OpR X (compareOp op) (rI0 fun i j => .bl (g i j))) (ho' : ∀ X : Cx, OpR X (compareOp op') (rI0 fun i j => .bl (g' i j))) (ha : JE T F a S eI wa) (hb : JE T F b S eI wb) (hc : JE T F c S eI wc)
    {X : Cx} {M : MS} {σ : St} {G H : Hp} (C : CxF T F X) (wd : Wd M G H) (v : View T M G σ S) {P : Bool → Prop} (hp : wa fun x => wb fun y => if g x y then wc fun z => P (g' y z) else P false) {Q : VK} (q : ∀ t G2 H2, Stp M G H G2 H2 → P t → Q (.bl t) H2) :
    tChain (rI0 fun i j => .bl (g i j)) (rI0 fun i j => .bl (g' i j)) (rdE X a) (rdE X b) (rdE X c) σ H Q :=
  JX.two ha hb C wd v (P := fun x y => if g x y then wc fun z => P (g' y z) else P false) hp fun v1 v2 x y G2 H2 s d1 d2 p => by
    cases d1; cases d2
    refine ⟨x, y, rfl, rfl, g x y, rfl, ?_⟩
    cases h : g x y with
    | true =>
      rw [h] at p
      exact iteT (hc.run X M σ G2 H2 C s.wd (v.up s.gg) _ p _ fun v3 z G3 H3 s' d3 p' => by cases d3; exact ⟨y, z, rfl, rfl, q _ G3 H3 (s.trans s') p'⟩)
    | false =>
      rw [h] at p
      exact iteF (q _ G2 H2 s p)
end
end DW
namespace DW
open PySem L2 PL
section
variable {T : Tx} {F : Fr} {S : List Sl} {α β γ δ ε : Type} {e a b c : Expr} {es rest : List Expr} {pos : Pos}
/-! chains of ints -/
theorem JE.leLt {wa wb wc : W Int} (ha : JE T F a S eI wa) (hb : JE T F b S eI wb) (hc : JE T F c S eI wc) (hm : lastMarks [.LtE, .Lt] [b, c] = false := by with_unfolding_all rfl) : JE T F (.Compare a [.LtE, .Lt] [b, c] pos) S eB (do let x ← wa; let y ← wb; if decide (x ≤ y) then (do let z ← wc; pure (decide (y < z))) else pure false) :=
  ⟨fun X M σ G H C wd v P hp Q q => toE (pe_chain op_le op_lt (peR a) (peR b) (peR c) hm) (JX.chainAux (op := .LtE) (op' := .Lt) (g := fun i j => decide (i ≤ j)) (g' := fun i j => decide (i < j)) (fun _ => op_le) (fun _ => op_lt) ha hb hc C wd v (P := P) (by simp only [W.bind_run, W.ite_run, W.pure_run] at hp; exact hp) fun t G2 H2 s p => q _ t G2 H2 s (.bl _) p)⟩
theorem JT.leLt {wa wb wc : W Int} (ha : JE T F a S eI wa) (hb : JE T F b S eI wb) (hc : JE T F c S eI wc) (hm : lastMarks [.LtE, .Lt] [b, c] = false := by with_unfolding_all rfl) : JT T F (.Compare a [.LtE, .Lt] [b, c] pos) S (do let x ← wa; let y ← wb; if decide (x ≤ y) then (do let z ← wc; pure (decide (y < z))) else pure false) :=
  ⟨fun X M σ G H C wd v P hp Q q => toT (pt_chain op_le op_lt (peR a) (peR b) (peR c) hm) (JX.chainAux (op := .LtE) (op' := .Lt) (g := fun i j => decide (i ≤ j)) (g' := fun i j => decide (i < j)) (fun _ => op_le) (fun _ => op_lt) ha hb hc C wd v (P := P) (by simp only [W.bind_run, W.ite_run, W.pure_run] at hp; exact hp) fun t G2 H2 s p => ⟨t, rfl, q t G2 H2 s p⟩)⟩
/-! arguments -/
theorem JA.nil : JA T F [] S (fun _ : Unit => []) (pure ()) := ⟨fun X M σ G H C wd v P hp Q q => toA pa_nil (q [] () G H (.refl wd) .nil hp)⟩
theorem JA.cons {enc : α → PyData} {encs : β → List XD} {w : W α} {wr : W β} (h : JE T F e S enc w) (hr : JA T F es S encs wr) (hs : ∀ env, starEach (e :: es) env = (false, eval e env) :: starEach es env := by exact fun _ => star_one rfl) : JA T F (e :: es) S (fun p : α × β => .d (enc p.1) :: encs p.2) (do let x ← w; let y ← wr; pure (x, y)) :=
  ⟨fun X M σ G H C wd v P hp Q q => toA (pa_cons (peR e) (paR es) (hs _)) (h.run X M σ G H C wd v _ hp _ fun v' x G2 H2 s d p => hr.run X M σ G2 H2 C s.wd (v.up s.gg) _ p _ fun vs y G3 H3 s' d' p' => q _ (x, y) G3 H3 (s.trans s') (.cons (show Vp T M G3 v' (.d (enc x)) from s'.gg.dp d) d') p')⟩
theorem JA.pool {encs : β → List XD} {wr : W β} (h : JX T F e S (fun _ : Unit => .p) (pure ())) (hr : JA T F es S encs wr) (hs : ∀ env, starEach (e :: es) env = (false, eval e env) :: starEach es env := by exact fun _ => star_one rfl) : JA T F (e :: es) S (fun p : β => .p :: encs p) wr :=
  ⟨fun X M σ G H C wd v P hp Q q => toA (pa_cons (peR e) (paR es) (hs _)) (h.run X M σ G H C wd v (fun _ => wr P) hp _ fun v' x G2 H2 s d p => hr.run X M σ G2 H2 C s.wd (v.up s.gg) _ p _ fun vs y G3 H3 s' d' p' => q _ y G3 H3 (s.trans s') (.cons (show Vp T M G3 v' .p from d) d') p')⟩
/-! items of one kind: displays with stars -/
theorem JD.nil {enc : α → PyData} : JD T F [] S (fun l : List α => l.map enc) (pure []) := ⟨fun X M σ G H C wd v P hp Q q => toA pa_nil (q [] [] G H (.refl wd) .nil hp)⟩
theorem JD.cons {enc : α → PyData} {w : W α} {wr : W (List α)} (h : JE T F e S enc w) (hr : JD T F es S (fun l : List α => l.map enc) wr) (hs : ∀ env, starEach (e :: es) env = (false, eval e env) :: starEach es env := by exact fun _ => star_one rfl) : JD T F (e :: es) S (fun l : List α => l.map enc) (do let x ← w; let y ← wr; pure (x :: y)) :=
  ⟨fun X M σ G H C wd v P hp Q q => toA (pa_cons (peR e) (paR es) (hs _)) (h.run X M σ G H C wd v _ hp _ fun v' x G2 H2 s d p => hr.run X M σ G2 H2 C s.wd (v.up s.gg) _ p _ fun vs y G3 H3 s' d' p' => q _ (x :: y) G3 H3 (s.trans s') (.cons (s'.gg.dp d) d') p')⟩
theorem JD.starT {enc : α → PyData} {w wr : W (List α)} {p : Pos} (h : JE T F e S (eT enc) w) (hr : JD T F es S (fun l : List α => l.map enc) wr) : JD T F (.Starred e p :: es) S (fun l : List α => l.map enc) (do let x ← w; let y ← wr; pure (x ++ y)) :=
  ⟨fun X M σ G H C wd v P hp Q q => toA (StX.pa_star (peR e) (paR es) star_star) (h.run X M σ G H C wd v _ hp _ fun v' x G2 H2 s d p => by
    obtain ⟨a, xs, rfl, h1, h2⟩ := dp_tup d
    refine ⟨a, xs, rfl, .inl (C.K ▸ s.wd.gh.sqt h1), hr.run X M σ G2 H2 C s.wd (v.up s.gg) _ p _ fun vs y G3 H3 s' d' p' => q _ (x ++ y) G3 H3 (s.trans s') ?_ p'⟩
    rw [List.map_append]; exact dps_app (s'.gg.dps h2) d')⟩
theorem JD.starL {enc : α → PyData} {w wr : W (List α)} {p : Pos} (h : JE T F e S (eL enc) w) (hr : JD T F es S (fun l : List α => l.map enc) wr) : JD T F (.Starred e p :: es) S (fun l : List α => l.map enc) (do let x ← w; let y ← wr; pure (x ++ y)) :=
  ⟨fun X M σ G H C wd v P hp Q q => toA (StX.pa_star (peR e) (paR es) star_star) (h.run X M σ G H C wd v _ hp _ fun v' x G2 H2 s d p => by
    obtain ⟨a, xs, rfl, h1, h2⟩ := dp_lst d
    refine ⟨a, xs, rfl, .inr (C.K ▸ s.wd.gh.sql h1), hr.run X M σ G2 H2 C s.wd (v.up s.gg) _ p _ fun vs y G3 H3 s' d' p' => q _ (x ++ y) G3 H3 (s.trans s') ?_ p'⟩
    rw [List.map_append]; exact dps_app (s'.gg.dps h2) d')⟩
/-- a tuple of one kind, a list -/
theorem JE.tupD {enc : α → PyData} {w : W (List α)} {k} (h : JD T F es S (fun l : List α => l.map enc) w) : JE T F (.Tuple es k pos) S (eT enc) (do let l ← w; gd (l.length ≤ 100000); pure l) :=
  ⟨fun X M σ G H C wd v P hp Q q => toE (pe_tup (paR es)) (h.run X M σ G H C wd v _ hp _ fun vs t G2 H2 s d p => ⟨sz (by rw [dps_len d, List.length_map]; exact p.1), fun p' hp' => q _ t _ _ (s.trans (.laid s.wd hp')) (show Dp _ _ _ _ from .tup (.inl (.inl upd_same)) ((Stp.laid s.wd hp').gg.dps d)) p.2⟩)⟩
theorem JL.lstD {enc : α → PyData} {w : W (List α)} (h : JD T F es S (fun l : List α => l.map enc) w) : JL T F (.List es pos) S enc (do let l ← w; gd (l.length ≤ 100000); pure l) :=
  ⟨fun X M σ G H C wd v P hp Q q => toE (pe_lst (paR es)) (h.run X M σ G H C wd v _ hp _ fun vs t G2 H2 s d p => ⟨sz (by rw [dps_len d, List.length_map]; exact p.1), fun p' hp' => q _ t G2 _ (s.trans (.laidN s.wd hp')) ⟨p', vs, rfl, s.back hp', s.wd.gh.back hp', upd_same, d⟩ p.2⟩)⟩
theorem JE.tup0 {enc : α → PyData} {k} : JE T F (.Tuple [] k pos) S (eT enc) (pure []) :=
  ⟨fun X M σ G H C wd v P hp Q q => toE (pe_tup (paR [])) (toA pa_nil ⟨by decide, fun p' hp' => q _ [] _ _ (.laid wd hp') (show Dp _ _ _ _ from .tup (.inl (.inl upd_same)) .nil) hp⟩)⟩
/-- a new list of none -/
theorem JL.nil {enc : α → PyData} : JL T F (.List [] pos) S enc (pure []) :=
  ⟨fun X M σ G H C wd v P hp Q q => toE (pe_lst (paR [])) (toA pa_nil ⟨by decide, fun p' hp' => q _ [] G _ (.laidN wd hp') ⟨p', [], rfl, hp', wd.gh.back hp', upd_same, .nil⟩ hp⟩)⟩
/-! fixed tuples -/
theorem JE.tupA {encs : α → List PyData} {w : W α} {k} (n : Nat) (hn : n ≤ 100000) (h : JD T F es S encs w) (hl : ∀ t, (encs t).length = n) : JE T F (.Tuple es k pos) S (fun t => .tuple (encs t)) w :=
  ⟨fun X M σ G H C wd v P hp Q q => toE (pe_tup (paR es)) (h.run X M σ G H C wd v _ hp _ fun vs t G2 H2 s d p => ⟨sz (by rw [dps_len d, hl]; exact hn), fun p' hp' => q _ t _ _ (s.trans (.laid s.wd hp')) (show Dp _ _ _ _ from .tup (.inl (.inl upd_same)) ((Stp.laid s.wd hp').gg.dps d)) p⟩)⟩
theorem JD.nilA : JD T F [] S (fun _ : Unit => []) (pure ()) := ⟨fun X M σ G H C wd v P hp Q q => toA pa_nil (q [] () G H (.refl wd) .nil hp)⟩
theorem JD.consA {enc : α → PyData} {encs : β → List PyData} {w : W α} {wr : W β} (h : JE T F e S enc w) (hr : JD T F es S encs wr) (hs : ∀ env, starEach (e :: es) env = (false, eval e env) :: starEach es env := by exact fun _ => star_one rfl) : JD T F (e :: es) S (fun p : α × β => enc p.1 :: encs p.2) (do let x ← w; let y ← wr; pure (x, y)) :=
  ⟨fun X M σ G H C wd v P hp Q q => toA (pa_cons (peR e) (paR es) (hs _)) (h.run X M σ G H C wd v _ hp _ fun v' x G2 H2 s d p => hr.run X M σ G2 H2 C s.wd (v.up s.gg) _ p _ fun vs y G3 H3 s' d' p' => q _ (x, y) G3 H3 (s.trans s') (.cons (s'.gg.dp d) d') p')⟩
theorem JE.tup2 {ea : α → PyData} {eb : β → PyData} {wa : W α} {wb : W β} {k} (ha : JE T F a S ea wa) (hb : JE T F b S eb wb) (h1 : ∀ env, starEach [a, b] env = (false, eval a env) :: starEach [b] env := by exact fun _ => star_one rfl) (h2 : ∀ env, starEach [b] env = (false, eval b env) :: starEach [] env := by exact fun _ => star_one rfl) : JE T F (.Tuple [a, b] k pos) S (eP ea eb) (do let x ← wa; let y ← wb; pure (x, y)) :=
  JX.map (fun p : α × β × Unit => (p.1, p.2.1)) (JE.tupA 2 (by decide) (JD.consA ha (JD.consA hb JD.nilA h2) h1) (fun _ => rfl)) (fun _ => rfl)
theorem JE.tup3 {ea : α → PyData} {eb : β → PyData} {ec : γ → PyData} {wa : W α} {wb : W β} {wc : W γ} {k} (ha : JE T F a S ea wa) (hb : JE T F b S eb wb) (hc : JE T F c S ec wc) (h1 : ∀ env, starEach [a, b, c] env = (false, eval a env) :: starEach [b, c] env := by exact fun _ => star_one rfl) (h2 : ∀ env, starEach [b, c] env = (false, eval b env) :: starEach [c] env := by exact fun _ => star_one rfl) (h3 : ∀ env, starEach [c] env = (false, eval c env) :: starEach [] env := by exact fun _ => star_one rfl) : JE T F (.Tuple [a, b, c] k pos) S (eP3 ea eb ec) (do let x ← wa; let y ← wb; let z ← wc; pure (x, y, z)) :=
  JX.map (fun p : α × β × γ × Unit => (p.1, p.2.1, p.2.2.1)) (JE.tupA 3 (by decide) (JD.consA ha (JD.consA hb (JD.consA hc JD.nilA h3) h2) h1) (fun _ => rfl)) (fun _ => rfl)
/-! subscripts -/
def getW (xs : List α) (i : Int) : W α := fun Q => ∃ x, atI xs i = some x ∧ Q x
theorem atI_map (f : α → β) (xs : List α) (i : Int) : atI (xs.map f) i = (atI xs i).map f := by
  unfold atI
  rw [List.length_map]
  cases ixN xs.length i with
  | none => rfl
  | some j => show (xs.map f)[j]? = (xs[j]?).map f; rw [List.getElem?_map]
theorem JE.ixL {enc : α → PyData} {wa : W (List α)} {wb : W Int} (ha : JE T F a S (eL enc) wa) (hb : JE T F b S eI wb) (hs : PlainIx b := by exact fun _ _ => rfl) : JE T F (.Subscript a b pos) S enc (do let xs ← wa; let i ← wb; getW xs i) :=
  ⟨fun X M σ G H C wd v P hp Q q => toE (pe_ix ix_list (peR a) (peR b) hs) (JX.two ha hb C wd v (P := fun xs i => getW xs i P) hp fun v u xs i G2 H2 s d1 d2 ⟨x, hx, px⟩ => by
    cases d2
    obtain ⟨p', vs, rfl, h1, h2⟩ := dp_lst d1
    obtain ⟨v', e1, e2⟩ := dps_atI h2 (show atI (xs.map enc) i = some (enc x) by rw [atI_map, hx]; rfl)
    exact ⟨p', vs, i, v', rfl, rfl, C.K ▸ s.wd.gh.sql h1, e1, q _ x G2 H2 s e2 px⟩)⟩
theorem JE.ixT {enc : α → PyData} {wa : W (List α)} {wb : W Int} (ha : JE T F a S (eT enc) wa) (hb : JE T F b S eI wb) (hs : PlainIx b := by exact fun _ _ => rfl) : JE T F (.Subscript a b pos) S enc (do let xs ← wa; let i ← wb; getW xs i) :=
  ⟨fun X M σ G H C wd v P hp Q q => toE (pe_ix ix_tup (peR a) (peR b) hs) (JX.two ha hb C wd v (P := fun xs i => getW xs i P) hp fun v u xs i G2 H2 s d1 d2 ⟨x, hx, px⟩ => by
    cases d2
    obtain ⟨p', vs, rfl, h1, h2⟩ := dp_tup d1
    obtain ⟨v', e1, e2⟩ := dps_atI h2 (show atI (xs.map enc) i = some (enc x) by rw [atI_map, hx]; rfl)
    exact ⟨p', vs, i, v', rfl, rfl, C.K ▸ s.wd.gh.sqt h1, e1, q _ x G2 H2 s e2 px⟩)⟩
/-- t[k], the place written, the tuple of fixed kinds -/
theorem JE.ixC {ea : α → PyData} {eb : β → PyData} {k : Int} {j} {p2 : Pos} {w : W α} (g : α → β) (h : JE T F a S ea w) (hg : ∀ t, ∃ ds, ea t = .tuple ds ∧ atI ds k = some (eb (g t))) : JE T F (.Subscript a (.Constant (.int k) j p2) pos) S eb (do let x ← w; pure (g x)) :=
  ⟨fun X M σ G H C wd v P hp Q q => toE (pe_ix ix_tup (peR a) (peR _) (fun _ _ => rfl)) (h.run X M σ G H C wd v _ hp _ fun v x G2 H2 s d1 px => toE pe_int (by
    obtain ⟨ds, e1, e2⟩ := hg x
    have d1 : Dp T.K G2 v (ea x) := d1
    rw [e1] at d1
    obtain ⟨p', vs, rfl, h1, h2⟩ := dp_tup d1
    obtain ⟨v', e3, e4⟩ := dps_atI h2 e2
    exact ⟨p', vs, k, v', rfl, rfl, C.K ▸ s.wd.gh.sqt h1, e3, q _ (g x) G2 H2 s e4 px⟩))⟩
end
end DW
namespace DW
open PySem L2 PL PLS
/-- the built-ins are the built-ins -/
structure Blt (T : Tx) : Prop where
  len : T.mg "len" = none
  sum : T.mg "sum" = none
  any : T.mg "any" = none
  all : T.mg "all" = none
  sorted : T.mg "sorted" = none
  list : T.mg "list" = none
  tuple : T.mg "tuple" = none
  set : T.mg "set" = none
  max : T.mg "max" = none
  min : T.mg "min" = none
  abs : T.mg "abs" = none
  int : T.mg "int" = none
  range : T.mg "range" = none
  isinstance : T.mg "isinstance" = none
  enumerate : T.mg "enumerate" = none
  zip : T.mg "zip" = none
  reversed : T.mg "reversed" = none
  bool : T.mg "bool" = none
  str : T.mg "str" = none
section
variable {T : Tx} {F : Fr} {S : List Sl} {α β γ δ ε : Type} {e a b c : Expr} {es rest : List Expr} {pos p : Pos}
/-- f(a), f built in -/
theorem JX.blt1 {id : String} {x : Str} {r : Cx → List V → Hp → VK → Prop} {ea : α → PyData} {eb : β → XD} {w : W α} {f : α → W β} (hc : ∀ X : Cx, CxF T F X → CallR X (.builtin id) (r X)) (hm : T.mg x = none) (hv : bootBuiltins x = some (.builtin id)) (hg : F.glo x = true) (h : JE T F a S ea w)
    (hr : ∀ (X : Cx) (M : MS) (G H : Hp) v t (P : β → Prop) (Q : VK), CxF T F X → Wd M G H → Dp T.K G v (ea t) → f t P → (∀ v u G2 H2, Stp M G H G2 H2 → Rv T M H G2 H2 v (eb u) → P u → Q v H2) → r X [v] H Q)
    (hn : x ≠ "__name__" := by decide) (na : ∀ env, starEach [a] env = (false, eval a env) :: starEach [] env := by exact fun _ => star_one rfl) : JX T F (.Call (.Name x p) [a] [] pos) S eb (do let x ← w; f x) :=
  ⟨fun X M σ G H C wd v P hp Q q => by
    obtain ⟨g1, g2⟩ := C.glo hg
    refine toE (pe_callB (hc X C) g1 (by rw [C.mg]; exact hm) hv (pa_cons (peR a) pa_nil (na _)) hn g2 (na _)) (h.run X M σ G H C wd v _ hp _ fun v' t G2 H2 s d pt => ?_)
    exact hr X M G2 H2 v' t P Q C s.wd d pt fun v u G3 H3 s' d' p' => q v u G3 H3 (s.trans s') (by
      cases hb : eb u with
      | d x => rw [hb] at d'; exact d'
      | l xs => rw [hb] at d'; obtain ⟨p, vs, e1, e2, e3⟩ := d'; exact ⟨p, vs, e1, s.back e2, e3⟩
      | p => rw [hb] at d'; exact d'
      | q φ => rw [hb] at d'; exact φ.bk (fun a z => s.back z) d') p'⟩
theorem JX.ty1 {id : String} {x : Str} {r : Cx → List V → Hp → VK → Prop} {ea : α → PyData} {eb : β → XD} {w : W α} {f : α → W β} (hc : ∀ X : Cx, CxF T F X → CallR X (.type id) (r X)) (hm : T.mg x = none) (hv : bootBuiltins x = some (.type id)) (hg : F.glo x = true) (h : JE T F a S ea w)
    (hr : ∀ (X : Cx) (M : MS) (G H : Hp) v t (P : β → Prop) (Q : VK), CxF T F X → Wd M G H → Dp T.K G v (ea t) → f t P → (∀ v u G2 H2, Stp M G H G2 H2 → Rv T M H G2 H2 v (eb u) → P u → Q v H2) → r X [v] H Q)
    (hn : x ≠ "__name__" := by decide) (na : ∀ env, starEach [a] env = (false, eval a env) :: starEach [] env := by exact fun _ => star_one rfl) : JX T F (.Call (.Name x p) [a] [] pos) S eb (do let x ← w; f x) :=
  ⟨fun X M σ G H C wd v P hp Q q => by
    obtain ⟨g1, g2⟩ := C.glo hg
    refine toE (pe_callTy (hc X C) g1 (by rw [C.mg]; exact hm) hv (pa_cons (peR a) pa_nil (na _)) hn g2 (na _)) (h.run X M σ G H C wd v _ hp _ fun v' t G2 H2 s d pt => ?_)
    exact hr X M G2 H2 v' t P Q C s.wd d pt fun v u G3 H3 s' d' p' => q v u G3 H3 (s.trans s') (by
      cases hb : eb u with
      | d x => rw [hb] at d'; exact d'
      | l xs => rw [hb] at d'; obtain ⟨p, vs, e1, e2, e3⟩ := d'; exact ⟨p, vs, e1, s.back e2, e3⟩
      | p => rw [hb] at d'; exact d'
      | q φ => rw [hb] at d'; exact φ.bk (fun a z => s.back z) d') p'⟩
theorem JE.lenL (B : Blt T) {ea : α → PyData} {w : W (List α)} (h : JE T F a S (eL ea) w) (hg : F.glo "len" = true := by kernel_rfl) (na : ∀ env, starEach [a] env = (false, eval a env) :: starEach [] env := by exact fun _ => star_one rfl) : JE T F (.Call (.Name "len" p) [a] [] pos) S eI (do let l ← w; pure ((l.length : Nat) : Int)) :=
  JX.blt1 (fun X C => call_len_seq) B.len PySem.boot_len hg h (fun X M G H v t P Q C wd d pt q => by
    obtain ⟨p', xs, rfl, h1, h2⟩ := dp_lst d
    refine ⟨p', xs, rfl, .inl (C.K ▸ wd.gh.sql h1), q _ _ G H (.refl wd) ?_ pt⟩
    rw [dps_len h2, List.length_map]; exact .int _) (by decide) na
theorem JE.lenT (B : Blt T) {ea : α → PyData} {w : W (List α)} (h : JE T F a S (eT ea) w) (hg : F.glo "len" = true := by kernel_rfl) (na : ∀ env, starEach [a] env = (false, eval a env) :: starEach [] env := by exact fun _ => star_one rfl) : JE T F (.Call (.Name "len" p) [a] [] pos) S eI (do let l ← w; pure ((l.length : Nat) : Int)) :=
  JX.blt1 (fun X C => call_len_seq) B.len PySem.boot_len hg h (fun X M G H v t P Q C wd d pt q => by
    obtain ⟨p', xs, rfl, h1, h2⟩ := dp_tup d
    refine ⟨p', xs, rfl, .inr (C.K ▸ wd.gh.sqt h1), q _ _ G H (.refl wd) ?_ pt⟩
    rw [dps_len h2, List.length_map]; exact .int _) (by decide) na
theorem JE.all (B : Blt T) {w : W (List Bool)} (h : JE T F a S (eL eB) w) (hg : F.glo "all" = true := by kernel_rfl) (na : ∀ env, starEach [a] env = (false, eval a env) :: starEach [] env := by exact fun _ => star_one rfl) : JE T F (.Call (.Name "all" p) [a] [] pos) S eB (do let l ← w; pure (l.all id)) :=
  JX.blt1 (fun X C => cr_all C.calm) B.all (by decide +kernel) hg h (fun X M G H v t P Q C wd d pt q => by
    obtain ⟨p', xs, rfl, h1, h2⟩ := dp_lst d
    have e := dps_bls h2; subst e
    exact ⟨p', t, rfl, C.K ▸ wd.gh.sql h1, q _ _ G H (.refl wd) (.bl _) pt⟩) (by decide) na
theorem JE.any (B : Blt T) {w : W (List Bool)} (h : JE T F a S (eL eB) w) (hg : F.glo "any" = true := by kernel_rfl) (na : ∀ env, starEach [a] env = (false, eval a env) :: starEach [] env := by exact fun _ => star_one rfl) : JE T F (.Call (.Name "any" p) [a] [] pos) S eB (do let l ← w; pure (l.any id)) :=
  JX.blt1 (fun X C => cr_any C.calm) B.any (by decide +kernel) hg h (fun X M G H v t P Q C wd d pt q => by
    obtain ⟨p', xs, rfl, h1, h2⟩ := dp_lst d
    have e := dps_bls h2; subst e
    exact ⟨p', t, rfl, C.K ▸ wd.gh.sql h1, q _ _ G H (.refl wd) (.bl _) pt⟩) (by decide) na
theorem JE.sum (B : Blt T) {w : W (List Int)} (h : JE T F a S (eL eI) w) (hg : F.glo "sum" = true := by kernel_rfl) (na : ∀ env, starEach [a] env = (false, eval a env) :: starEach [] env := by exact fun _ => star_one rfl) : JE T F (.Call (.Name "sum" p) [a] [] pos) S eI (do let l ← w; pure l.sum) :=
  JX.blt1 (fun X C => cr_sum C.calm) B.sum (by decide +kernel) hg h (fun X M G H v t P Q C wd d pt q => by
    obtain ⟨p', xs, rfl, h1, h2⟩ := dp_lst d
    have e := dps_ints h2; subst e
    exact ⟨p', t, rfl, C.K ▸ wd.gh.sql h1, q _ _ G H (.refl wd) (.int _) pt⟩) (by decide) na
theorem JE.abs (B : Blt T) {w : W Int} (h : JE T F a S eI w) (hg : F.glo "abs" = true := by kernel_rfl) (na : ∀ env, starEach [a] env = (false, eval a env) :: starEach [] env := by exact fun _ => star_one rfl) : JE T F (.Call (.Name "abs" p) [a] [] pos) S eI (do let i ← w; pure (if i < 0 then -i else i)) :=
  JX.blt1 (fun X C => call_abs) B.abs (by decide +kernel) hg h (fun X M G H v t P Q C wd d pt q => by
    cases d; exact ⟨t, rfl, q _ _ G H (.refl wd) (.int _) pt⟩) (by decide) na
theorem JE.intI (B : Blt T) {w : W Int} (h : JE T F a S eI w) (hg : F.glo "int" = true := by kernel_rfl) (na : ∀ env, starEach [a] env = (false, eval a env) :: starEach [] env := by exact fun _ => star_one rfl) : JE T F (.Call (.Name "int" p) [a] [] pos) S eI w :=
  JX.imp (JX.ty1 (f := fun i => pure i) (fun X C => call_int1) B.int (by decide +kernel) hg h (fun X M G H v t P Q C wd d pt q => by
    cases d; exact .inl ⟨t, rfl, q _ _ G H (.refl wd) (.int _) pt⟩) (by decide) na) fun P h => h
theorem JE.intB (B : Blt T) {w : W Bool} (h : JE T F a S eB w) (hg : F.glo "int" = true := by kernel_rfl) (na : ∀ env, starEach [a] env = (false, eval a env) :: starEach [] env := by exact fun _ => star_one rfl) : JE T F (.Call (.Name "int" p) [a] [] pos) S eI (do let x ← w; pure (if x then 1 else 0)) :=
  JX.ty1 (fun X C => call_int1) B.int (by decide +kernel) hg h (fun X M G H v t P Q C wd d pt q => by
    cases d; exact .inr ⟨t, rfl, q _ _ G H (.refl wd) (.int _) pt⟩) (by decide) na
/-- tuple(a list), list(a list), list(a tuple) -/
theorem JE.tuple (B : Blt T) {ea : α → PyData} {w : W (List α)} (h : JE T F a S (eL ea) w) (hg : F.glo "tuple" = true := by kernel_rfl) (na : ∀ env, starEach [a] env = (false, eval a env) :: starEach [] env := by exact fun _ => star_one rfl) : JE T F (.Call (.Name "tuple" p) [a] [] pos) S (eT ea) w :=
  JX.imp (JX.ty1 (f := fun i => pure i) (fun X C => call_tuple_of) B.tuple (by decide +kernel) hg h (fun X M G H v t P Q C wd d pt q => by
    obtain ⟨p', xs, rfl, h1, h2⟩ := dp_lst d
    exact ⟨p', xs, rfl, .inl ⟨C.K ▸ wd.gh.sql h1, fun l hl => q _ t _ _ (.laid wd hl) (show Dp _ _ _ _ from .tup (.inl (.inl upd_same)) ((Stp.laid wd hl).gg.dps h2)) pt⟩⟩) (by decide) na) fun P h => h
theorem JE.tupleT (B : Blt T) {ea : α → PyData} {w : W (List α)} (h : JE T F a S (eT ea) w) (hg : F.glo "tuple" = true := by kernel_rfl) (na : ∀ env, starEach [a] env = (false, eval a env) :: starEach [] env := by exact fun _ => star_one rfl) : JE T F (.Call (.Name "tuple" p) [a] [] pos) S (eT ea) w :=
  JX.imp (JX.ty1 (f := fun i => pure i) (fun X C => call_tuple_of) B.tuple (by decide +kernel) hg h (fun X M G H v t P Q C wd d pt q => by
    obtain ⟨p', xs, rfl, h1, h2⟩ := dp_tup d
    exact ⟨p', xs, rfl, .inr ⟨C.K ▸ wd.gh.sqt h1, q _ t _ _ (.refl wd) (show Dp _ _ _ _ from .tup h1 h2) pt⟩⟩) (by decide) na) fun P h => h
theorem JL.list (B : Blt T) {ea : α → PyData} {w : W (List α)} (h : JE T F a S (eL ea) w) (hg : F.glo "list" = true := by kernel_rfl) (na : ∀ env, starEach [a] env = (false, eval a env) :: starEach [] env := by exact fun _ => star_one rfl) : JL T F (.Call (.Name "list" p) [a] [] pos) S ea w :=
  JX.imp (JX.ty1 (f := fun i => pure i) (fun X C => call_list_of) B.list (by decide +kernel) hg h (fun X M G H v t P Q C wd d pt q => by
    obtain ⟨p', xs, rfl, h1, h2⟩ := dp_lst d
    exact ⟨p', xs, rfl, .inl (C.K ▸ wd.gh.sql h1), fun l hl => q _ t G _ (.laidN wd hl) ⟨l, xs, rfl, hl, wd.gh.back hl, upd_same, h2⟩ pt⟩) (by decide) na) fun P h => h
theorem JL.listT (B : Blt T) {ea : α → PyData} {w : W (List α)} (h : JE T F a S (eT ea) w) (hg : F.glo "list" = true := by kernel_rfl) (na : ∀ env, starEach [a] env = (false, eval a env) :: starEach [] env := by exact fun _ => star_one rfl) : JL T F (.Call (.Name "list" p) [a] [] pos) S ea w :=
  JX.imp (JX.ty1 (f := fun i => pure i) (fun X C => call_list_of) B.list (by decide +kernel) hg h (fun X M G H v t P Q C wd d pt q => by
    obtain ⟨p', xs, rfl, h1, h2⟩ := dp_tup d
    exact ⟨p', xs, rfl, .inr (C.K ▸ wd.gh.sqt h1), fun l hl => q _ t G _ (.laidN wd hl) ⟨l, xs, rfl, hl, wd.gh.back hl, upd_same, h2⟩ pt⟩) (by decide) na) fun P h => h
/-! sorted -/
def srtI (ns : List Int) : List Int := ns.mergeSort fun a b => decide (a ≤ b)
theorem srtI_perm (ns : List Int) : (srtI ns).Perm ns := List.mergeSort_perm _ _
theorem srtI_pw (ns : List Int) : (srtI ns).Pairwise (· ≤ ·) := by
  have := List.pairwise_mergeSort (le := fun a b : Int => decide (a ≤ b)) (fun a b c h1 h2 => by simp at *; omega) (fun a b => by simp; omega) ns
  exact this.imp fun h => by simpa using h
theorem srtI_uniq {ns ns' : List Int} (h1 : ns'.Perm ns) (h2 : ns'.Pairwise (· ≤ ·)) : ns' = srtI ns :=
  (h1.trans (srtI_perm ns).symm).eq_of_pairwise (fun a b _ _ x y => by omega) h2 (srtI_pw ns)
theorem JL.sortedI (B : Blt T) {w : W (List Int)} (h : JE T F a S (eL eI) w) (hg : F.glo "sorted" = true := by kernel_rfl) (na : ∀ env, starEach [a] env = (false, eval a env) :: starEach [] env := by exact fun _ => star_one rfl) : JL T F (.Call (.Name "sorted" p) [a] [] pos) S eI (do let l ← w; pure (srtI l)) :=
  JX.blt1 (fun X C => cr_sortedI) B.sorted (by decide +kernel) hg h (fun X M G H v t P Q C wd d pt q => by
    obtain ⟨p', xs, rfl, h1, h2⟩ := dp_lst d
    have e := dps_ints h2; subst e
    exact ⟨p', t, rfl, C.K ▸ wd.gh.sql h1, fun ns' l pe so hl => by
      have e := srtI_uniq pe so; subst e
      exact q _ _ G _ (.laidN wd hl) ⟨l, _, rfl, hl, wd.gh.back hl, upd_same, dps_of_ints _⟩ pt⟩) (by decide) na
theorem JL.sortedIT (B : Blt T) {w : W (List Int)} (h : JE T F a S (eT eI) w) (hg : F.glo "sorted" = true := by kernel_rfl) (na : ∀ env, starEach [a] env = (false, eval a env) :: starEach [] env := by exact fun _ => star_one rfl) : JL T F (.Call (.Name "sorted" p) [a] [] pos) S eI (do let l ← w; pure (srtI l)) :=
  JX.blt1 (fun X C => cr_sortedIT) B.sorted (by decide +kernel) hg h (fun X M G H v t P Q C wd d pt q => by
    obtain ⟨p', xs, rfl, h1, h2⟩ := dp_tup d
    have e := dps_ints h2; subst e
    exact ⟨p', t, rfl, C.K ▸ wd.gh.sqt h1, fun ns' l pe so hl => by
      have e := srtI_uniq pe so; subst e
      exact q _ _ G _ (.laidN wd hl) ⟨l, _, rfl, hl, wd.gh.back hl, upd_same, dps_of_ints _⟩ pt⟩) (by decide) na
/-- data that sort -/
class EncA (e : α → PyData) : Prop where
  al : ∀ x y, PySem.W.alike (e x) (e y) = true
  kd : (∀ x, ∃ xs, e x = .tuple xs) ∨ ∀ x, e x ≠ .none ∧ ∀ xs, e x ≠ .tuple xs
theorem alikeAll_map {e : α → PyData} (h : ∀ x y, PySem.W.alike (e x) (e y) = true) : ∀ xs ys : List α, PySem.W.alikeAll (xs.map e) (ys.map e) = true
  | [], _ => by rw [List.map_nil, PySem.W.alikeAll]
  | _ :: _, [] => by rw [List.map_nil, List.map_cons, PySem.W.alikeAll]
  | x :: xs, y :: ys => by rw [List.map_cons, List.map_cons, PySem.W.alikeAll, h, alikeAll_map h xs ys]; rfl
instance : EncA eI := ⟨fun x y => by show PySem.W.alike (.int _) (.int _) = true; rw [PySem.W.alike], .inr fun _ => ⟨fun z => (by cases z), fun _ z => (by cases z)⟩⟩
instance {e : α → PyData} [h : EncA e] : EncA (eT e) := ⟨fun x y => by show PySem.W.alike (.tuple _) (.tuple _) = true; rw [PySem.W.alike]; exact alikeAll_map h.al _ _, .inl fun x => ⟨_, rfl⟩⟩
instance {e : α → PyData} [h : EncA e] : EncA (eL e) := ⟨fun x y => by show PySem.W.alike (.list _) (.list _) = true; rw [PySem.W.alike]; exact alikeAll_map h.al _ _, .inr fun _ => ⟨fun z => (by cases z), fun _ z => (by cases z)⟩⟩
instance {f : α → PyData} {g : β → PyData} [h : EncA f] [k : EncA g] : EncA (eP f g) := ⟨fun x y => by
  show PySem.W.alike (.tuple _) (.tuple _) = true
  rw [PySem.W.alike, PySem.W.alikeAll, PySem.W.alikeAll, PySem.W.alikeAll, h.al, k.al]; rfl, .inl fun x => ⟨_, rfl⟩⟩
instance {f : α → PyData} {g : β → PyData} {j : γ → PyData} [h : EncA f] [k : EncA g] [l : EncA j] : EncA (eP3 f g j) := ⟨fun x y => by
  show PySem.W.alike (.tuple _) (.tuple _) = true
  rw [PySem.W.alike, PySem.W.alikeAll, PySem.W.alikeAll, PySem.W.alikeAll, PySem.W.alikeAll, h.al, k.al, l.al]; rfl, .inl fun x => ⟨_, rfl⟩⟩
theorem EncA.srt {e : α → PyData} [h : EncA e] (xs : List α) : SrtD (xs.map e) := by
  refine ⟨PySem.W.AllAlike.of fun x y => h.al x y, ?_⟩
  rcases h.kd with z | z
  · exact .inr fun d hd => by obtain ⟨x, _, rfl⟩ := List.mem_map.mp hd; exact z x
  · exact .inl (.others z)
/-- the order of data -/
def leE (e : α → PyData) : α → α → Bool := PySem.W.dataLe false e
def srtE (e : α → PyData) (xs : List α) : List α := xs.mergeSort (leE e)
theorem srt_map {K : PySem.W.Frag} {G : Hp} {e : α → PyData} {vs : List V} {xs : List α} (h : DpAll K G vs (xs.map e)) : DpAll K G (((vs.zip (xs.map e)).mergeSort (PySem.W.dataLe false (·.2))).map (·.1)) ((srtE e xs).map e) := by
  have hp : ∀ b ∈ (vs.zip (xs.map e)).mergeSort (PySem.W.dataLe false (·.2)), Dp K G b.1 b.2 := fun b hb => dps_mem h b ((List.mergeSort_perm _ _).mem_iff.mp hb)
  have := dps_of_mem _ hp
  have e2 : ((vs.zip (xs.map e)).mergeSort (PySem.W.dataLe false (·.2))).map (·.2) = (srtE e xs).map e := by
    rw [map_sort (r := PySem.W.dataLe false fun b : V × D => b.2) (s := PySem.W.dataLe false id) (fun a b => rfl), zip_snd (dps_len h)]
    unfold srtE leE
    rw [map_sort (r := PySem.W.dataLe false e) (s := PySem.W.dataLe false id) (fun a b => rfl)]
  rw [e2] at this
  exact this
theorem JL.sortedD (B : Blt T) {ea : α → PyData} {n : Nat} [EncA ea] [EncD ea n] {w : W (List α)} (h : JE T F a S (eL ea) w) (hn : n ≤ 32 := by decide) (hg : F.glo "sorted" = true := by kernel_rfl) (na : ∀ env, starEach [a] env = (false, eval a env) :: starEach [] env := by exact fun _ => star_one rfl) : JL T F (.Call (.Name "sorted" p) [a] [] pos) S ea (do let l ← w; pure (srtE ea l)) :=
  JX.blt1 (fun X C => cr_sortA C.hu) B.sorted (by decide +kernel) hg h (fun X M G H v t P Q C wd d pt q => by
    obtain ⟨p', xs, rfl, h1, h2⟩ := dp_lst d
    refine ⟨p', xs, t.map ea, rfl, C.K ▸ wd.gh.sql h1, C.K ▸ wd.gh.dps h2, EncA.srt t, fun d hd => ?_, fun l hl => q _ _ G _ (.laidN wd hl) ⟨l, _, rfl, hl, wd.gh.back hl, upd_same, srt_map h2⟩ pt⟩
    obtain ⟨x, _, rfl⟩ := List.mem_map.mp hd
    exact Nat.le_trans (EncD.dep x) hn) (by decide) na
end
end DW
namespace DW
open PySem L2 PL PLS
section
variable {T : Tx} {F : Fr} {S : List Sl} {α β γ δ ε : Type} {e a b c : Expr} {es rest : List Expr} {pos p p2 p3 : Pos}
/-! a, b: max, min -/
theorem JX.args2 {ea : α → PyData} {eb : β → PyData} {wa : W α} {wb : W β} (ha : JE T F a S ea wa) (hb : JE T F b S eb wb) (h1 : ∀ env, starEach [a, b] env = (false, eval a env) :: starEach [b] env) (h2 : ∀ env, starEach [b] env = (false, eval b env) :: starEach [] env) {X : Cx} {M : MS} {σ : St} {G H : Hp} (C : CxF T F X) (wd : Wd M G H) (v : View T M G σ S) {P : α → β → Prop} (hp : wa fun x => wb (P x)) {Q : List V → Hp → Prop}
    (q : ∀ v u x y G2 H2, Stp M G H G2 H2 → Dp T.K G2 v (ea x) → Dp T.K G2 u (eb y) → P x y → Q [v, u] H2) : rdA X [a, b] σ H Q :=
  toA (pa_cons (peR a) (pa_cons (peR b) pa_nil (h2 _)) (h1 _)) (JX.two ha hb C wd v hp fun v u x y G2 H2 s d1 d2 px => q v u x y G2 H2 s d1 d2 px)
theorem JE.max2 (B : Blt T) {wa wb : W Int} (ha : JE T F a S eI wa) (hb : JE T F b S eI wb) (hg : F.glo "max" = true := by kernel_rfl) (h1 : ∀ env, starEach [a, b] env = (false, eval a env) :: starEach [b] env := by exact fun _ => star_one rfl) (h2 : ∀ env, starEach [b] env = (false, eval b env) :: starEach [] env := by exact fun _ => star_one rfl)
    (hpl : ∀ env, (backTo pos (starEach [b] env)).any (·.1) = false := by exact fun _ => back_ok rfl) : JE T F (.Call (.Name "max" p) [a, b] [] pos) S eI (do let i ← wa; let j ← wb; pure (max i j)) :=
  ⟨fun X M σ G H C wd v P hp Q q => by
    obtain ⟨g1, g2⟩ := C.glo hg
    refine toE (pe_callB (call_max2 C.calm) g1 (by rw [C.mg]; exact B.max) (by decide +kernel) (paR [a, b]) (by decide) g2 (h1 _) (hpl _)) (JX.args2 ha hb h1 h2 C wd v (P := fun i j => P (max i j)) hp fun v u x y G2 H2 s d1 d2 px => ?_)
    cases d1; cases d2
    refine ⟨x, y, rfl, q _ (max x y) G2 H2 s ?_ px⟩
    have e : (if y > x then y else x) = max x y := by split <;> omega
    rw [e]; exact .int _⟩
theorem JE.min2 (B : Blt T) {wa wb : W Int} (ha : JE T F a S eI wa) (hb : JE T F b S eI wb) (hg : F.glo "min" = true := by kernel_rfl) (h1 : ∀ env, starEach [a, b] env = (false, eval a env) :: starEach [b] env := by exact fun _ => star_one rfl) (h2 : ∀ env, starEach [b] env = (false, eval b env) :: starEach [] env := by exact fun _ => star_one rfl)
    (hpl : ∀ env, (backTo pos (starEach [b] env)).any (·.1) = false := by exact fun _ => back_ok rfl) : JE T F (.Call (.Name "min" p) [a, b] [] pos) S eI (do let i ← wa; let j ← wb; pure (min i j)) :=
  ⟨fun X M σ G H C wd v P hp Q q => by
    obtain ⟨g1, g2⟩ := C.glo hg
    refine toE (pe_callB (call_min2 C.calm) g1 (by rw [C.mg]; exact B.min) (by decide +kernel) (paR [a, b]) (by decide) g2 (h1 _) (hpl _)) (JX.args2 ha hb h1 h2 C wd v (P := fun i j => P (min i j)) hp fun v u x y G2 H2 s d1 d2 px => ?_)
    cases d1; cases d2
    refine ⟨x, y, rfl, q _ (min x y) G2 H2 s ?_ px⟩
    have e : (if y < x then y else x) = min x y := by split <;> omega
    rw [e]; exact .int _⟩
/-- max(a list of ints) -/
def maxW (l : List Int) : W Int := fun Q => 0 < l.length ∧ ∀ m, m ∈ l → (∀ y ∈ l, y ≤ m) → Q m
theorem JE.maxL (B : Blt T) {w : W (List Int)} (h : JE T F a S (eL eI) w) (hg : F.glo "max" = true := by kernel_rfl) (na : ∀ env, starEach [a] env = (false, eval a env) :: starEach [] env := by exact fun _ => star_one rfl) : JE T F (.Call (.Name "max" p) [a] [] pos) S eI (do let l ← w; maxW l) :=
  JX.blt1 (fun X C => cr_max C.calm) B.max (by decide +kernel) hg h (fun X M G H v t P Q C wd d pt q => by
    obtain ⟨p', xs, rfl, h1, h2⟩ := dp_lst d
    have e := dps_ints h2; subst e
    exact ⟨p', t, rfl, C.K ▸ wd.gh.sql h1, pt.1, fun m h1 h2 => q _ m G H (.refl wd) (.int _) (pt.2 m h1 h2)⟩) (by decide) na
/-! ranges as lists, as tuples -/
def rgI (a b : Int) : List Int := (List.range (b - a).toNat).map fun i => a + (i : Nat)
theorem rgV_eq (a b : Int) : rgV a b = (rgI a b).map V.int := by unfold rgV rgI; rw [List.map_map]; rfl
theorem JL.listR1 (B : Blt T) {w : W Int} (h : JE T F a S eI w) (hg : F.glo "list" = true := by kernel_rfl) (hg2 : F.glo "range" = true := by kernel_rfl) (na : ∀ env, starEach [a] env = (false, eval a env) :: starEach [] env := by exact fun _ => star_one rfl) : JL T F (.Call (.Name "list" p) [.Call (.Name "range" p2) [a] [] p3] [] pos) S eI (do let n ← w; gd (RgOk 0 n); pure (rgI 0 n)) :=
  ⟨fun X M σ G H C wd v P hp Q q => by
    obtain ⟨g1, g2⟩ := C.glo hg
    obtain ⟨g3, g4⟩ := C.glo hg2
    refine toE (pe_listRg C.calm g1 (by rw [C.mg]; exact B.list) (prg_1 g3 (by rw [C.mg]; exact B.range) (peR a) (na _)) (star_one rfl)) (h.run X M σ G H C wd v _ hp _ fun v n G2 H2 s d px => ?_)
    cases d
    refine ⟨n, rfl, px.1, fun l hl => ?_⟩
    rw [rgV_eq]
    exact q _ _ G2 _ (s.trans (.laidN s.wd hl)) ⟨l, _, rfl, s.back hl, s.wd.gh.back hl, upd_same, dps_of_ints _⟩ px.2⟩
theorem JE.tupR1 (B : Blt T) {w : W Int} (h : JE T F a S eI w) (hg : F.glo "tuple" = true := by kernel_rfl) (hg2 : F.glo "range" = true := by kernel_rfl) (na : ∀ env, starEach [a] env = (false, eval a env) :: starEach [] env := by exact fun _ => star_one rfl) : JE T F (.Call (.Name "tuple" p) [.Call (.Name "range" p2) [a] [] p3] [] pos) S (eT eI) (do let n ← w; gd (RgOk 0 n); pure (rgI 0 n)) :=
  ⟨fun X M σ G H C wd v P hp Q q => by
    obtain ⟨g1, g2⟩ := C.glo hg
    obtain ⟨g3, g4⟩ := C.glo hg2
    refine toE (pe_tupRg C.calm g1 (by rw [C.mg]; exact B.tuple) (prg_1 g3 (by rw [C.mg]; exact B.range) (peR a) (na _)) (star_one rfl)) (h.run X M σ G H C wd v _ hp _ fun v n G2 H2 s d px => ?_)
    cases d
    refine ⟨n, rfl, px.1, fun l hl => ?_⟩
    rw [rgV_eq]
    exact q _ _ _ _ (s.trans (.laid s.wd hl)) (show Dp _ _ _ _ from .tup (.inl (.inl upd_same)) (dps_of_ints _)) px.2⟩
/-! sorted(set(..)) -/
def usetW (ns : List Int) : W (List Int) := fun Q => (ns.length < 4000 ∧ ∃ m : List Int, m.length < 64 ∧ ∀ k ∈ ns, k ∈ m) ∧ ∀ ns', ns'.Pairwise (· < ·) → (∀ k, k ∈ ns' ↔ k ∈ ns) → Q ns'
theorem JL.sortedSetI (B : Blt T) {w : W (List Int)} (h : JE T F a S (eL eI) w) (hg : F.glo "sorted" = true := by kernel_rfl) (hg2 : F.glo "set" = true := by kernel_rfl) (na : ∀ env, starEach [a] env = (false, eval a env) :: starEach [] env := by exact fun _ => star_one rfl) : JL T F (.Call (.Name "sorted" p) [.Call (.Name "set" p2) [a] [] p3] [] pos) S eI (do let l ← w; usetW l) :=
  ⟨fun X M σ G H C wd v P hp Q q => by
    obtain ⟨g1, g2⟩ := C.glo hg
    obtain ⟨g3, g4⟩ := C.glo hg2
    refine toE (pe_callB (cr_sortedSet C.calm) g1 (by rw [C.mg]; exact B.sorted) (by decide +kernel) (pa_cons (pe_callTy (cr_setI C.calm) g3 (by rw [C.mg]; exact B.set) (by decide +kernel) (pa_cons (peR a) pa_nil (na _)) (by decide) g4 (na _)) pa_nil (star_one rfl)) (by decide) g2 (star_one rfl)) (h.run X M σ G H C wd v _ hp _ fun v ns G2 H2 s d px => ?_)
    obtain ⟨⟨hz, m, hm1, hm2⟩, px⟩ := px
    obtain ⟨p', xs, rfl, h1, h2⟩ := dp_lst d
    have e := dps_ints h2; subst e
    refine ⟨p', ns, m, rfl, C.K ▸ s.wd.gh.sql h1, hz, hm1, hm2, fun a' c' ha hc64 => ⟨a', _, c', rfl, upd_same, hc64, fun ns' l so mem _ hl => ?_⟩⟩
    have s1 := s.trans (.laidN (o := SetO X.w a' (fun j => decide (j ∈ ns)) c') s.wd ha)
    have s2 := s1.trans (.laidN (o := .lst (ns'.map V.int)) s1.wd hl)
    exact q _ ns' G2 _ s2 ⟨l, _, rfl, s1.back hl, s1.wd.gh.back hl, upd_same, dps_of_ints ns'⟩ (px ns' so fun k => by rw [mem k, decide_eq_true_iff])⟩
/-- tuples (nested) of ints as elements -/
class EncK (e : α → PyData) : Prop where
  el : ∀ t, elD (e t)
  inj : ∀ s t, kn (e s) = kn (e t) → s = t
def usetE (e : α → PyData) (xs : List α) : W (List α) := fun Q => (∃ m : List α, m.length < 77 ∧ ∀ x ∈ xs, x ∈ m) ∧ ∀ es : List α, es.Nodup → (∀ x, x ∈ es ↔ x ∈ xs) → Q (srtE e es)
theorem pre_map {e : α → PyData} {xs : List α} : ∀ {ds : List PyData}, (∀ d ∈ ds, d ∈ xs.map e) → ∃ es : List α, ds = es.map e ∧ ∀ x ∈ es, x ∈ xs
  | [], _ => ⟨[], rfl, fun x h => (by cases h)⟩
  | d :: ds, h => by
    obtain ⟨x, hx, rfl⟩ := List.mem_map.mp (h d List.mem_cons_self)
    obtain ⟨es, rfl, h2⟩ := pre_map (ds := ds) fun d' hd => h d' (List.mem_cons_of_mem _ hd)
    exact ⟨x :: es, rfl, fun y hy => (List.mem_cons.mp hy).elim (fun z => z ▸ hx) (h2 y)⟩
theorem JL.sortedSetN (B : Blt T) {ea : α → PyData} {n : Nat} [EncA ea] [EncD ea n] [EncK ea] {w : W (List α)} (h : JE T F a S (eL ea) w) (hn : n ≤ 32 := by decide) (hg : F.glo "sorted" = true := by kernel_rfl) (hg2 : F.glo "set" = true := by kernel_rfl) (na : ∀ env, starEach [a] env = (false, eval a env) :: starEach [] env := by exact fun _ => star_one rfl) : JL T F (.Call (.Name "sorted" p) [.Call (.Name "set" p2) [a] [] p3] [] pos) S ea (do let l ← w; usetE ea l) :=
  ⟨fun X M σ G H C wd v P hp Q q => by
    obtain ⟨g1, g2⟩ := C.glo hg
    obtain ⟨g3, g4⟩ := C.glo hg2
    refine toE (pe_callB (cr_sortN C.calm C.hu) g1 (by rw [C.mg]; exact B.sorted) (by decide +kernel) (pa_cons (pe_callTy (cr_setN C.calm C.hu) g3 (by rw [C.mg]; exact B.set) (by decide +kernel) (pa_cons (peR a) pa_nil (na _)) (by decide) g4 (na _)) pa_nil (star_one rfl)) (by decide) g2 (star_one rfl)) (h.run X M σ G H C wd v _ hp _ fun v ts G2 H2 s d px => ?_)
    obtain ⟨⟨m, hm1, hm2⟩, px⟩ := px
    obtain ⟨p', xs, rfl, h1, h2⟩ := dp_lst d
    have kt : ∀ {d : PyData}, d ∈ ts.map ea → elD d ∧ d.depth ≤ 32 := fun hd => by
      obtain ⟨x, _, rfl⟩ := List.mem_map.mp hd
      exact ⟨EncK.el x, Nat.le_trans (EncD.dep x) hn⟩
    refine ⟨p', xs, ts.map ea, rfl, C.K ▸ s.wd.gh.sql h1, C.K ▸ s.wd.gh.dps h2, fun d hd => (kt hd).1, ⟨m.map fun x => kn (ea x), by rw [List.length_map]; exact hm1, fun d hd => ?_⟩, fun a' L ha hL hall hnd => ?_⟩
    · obtain ⟨x, hx, rfl⟩ := List.mem_map.mp hd
      exact List.mem_map.mpr ⟨x, hm2 x hx, rfl⟩
    obtain ⟨ls, e1, e2⟩ := pick_data hL
    have kd : ∀ q ∈ ls, Dp T.K G2 (.ref q.1) q.2 ∧ q.2 ∈ ts.map ea := fun q hq => ⟨dps_mem h2 _ (e2 q hq), (List.of_mem_zip (e2 q hq)).2⟩
    have s1 := s.trans (.laidN (o := NSetO X.prog X.w a' L) s.wd ha)
    refine ⟨a', L, ls, rfl, upd_same, e1, fun q hq => ⟨C.K ▸ s1.wd.gh.dp (kd q hq).1, (kt (kd q hq).2).1⟩, (EncA.srt (e := ea) ts).of_sub (fun d hd => ?_), fun q hq => (kt (kd q hq).2).2, fun l bs pm hl => ?_⟩
    · obtain ⟨x, hx, rfl⟩ := List.mem_map.mp hd
      exact (kd x hx).2
    · have s2 := s1.trans (.laidN (o := .lst ((bs.mergeSort (PySem.W.dataLe false (·.2))).map fun b => V.ref b.1)) s1.wd hl)
      have inb : ∀ q ∈ bs, q ∈ ls := fun q hq => pm.mem_iff.mp hq
      obtain ⟨es, ee, esub⟩ := pre_map (e := ea) (xs := ts) (ds := bs.map (·.2)) fun d hd => by
        obtain ⟨x, hx, rfl⟩ := List.mem_map.mp hd
        exact (kd x (inb x hx)).2
      have nd : (bs.map fun p => kn p.2).Nodup := by
        have z : (ls.map fun p => kn p.2).Nodup := by
          have : L.map (·.2) = ls.map fun p => kn p.2 := by rw [← e1, List.map_map]; rfl
          rw [← this]; exact hnd
        exact (pm.map _).nodup_iff.mpr z
      have e3 : (es.map fun x => kn (ea x)) = bs.map fun p => kn p.2 := by
        have : (es.map ea).map kn = (bs.map (·.2)).map kn := by rw [ee]
        rw [List.map_map, List.map_map] at this; exact this
      have hnd2 : es.Nodup := by
        rw [← e3] at nd
        exact List.Pairwise.of_map _ (fun a b h e => h (by rw [e])) nd
      have hall2 : ∀ x, x ∈ es ↔ x ∈ ts := fun x => ⟨esub x, fun hx => by
        have z := hall (ea x) (List.mem_map.mpr ⟨x, hx, rfl⟩)
        rw [← e1, List.map_map] at z
        have z2 : kn (ea x) ∈ bs.map fun p => kn p.2 := (pm.map _).mem_iff.mpr z
        rw [← e3] at z2
        obtain ⟨y, hy, hxy⟩ := List.mem_map.mp z2
        rw [← EncK.inj (e := ea) _ _ hxy]; exact hy⟩
      have hd2 : DpAll T.K G2 ((bs.mergeSort (PySem.W.dataLe false (·.2))).map fun b => V.ref b.1) ((srtE ea es).map ea) := by
        have hp : ∀ b ∈ bs.mergeSort (PySem.W.dataLe false (·.2)), Dp T.K G2 (.ref b.1) b.2 := fun b hb => (kd b (inb b ((List.mergeSort_perm _ _).mem_iff.mp hb))).1
        have := dps_refs hp
        have e4 : (bs.mergeSort (PySem.W.dataLe false (·.2))).map (·.2) = (srtE ea es).map ea := by
          rw [map_sort (r := PySem.W.dataLe false fun b : Addr × PyData => b.2) (s := PySem.W.dataLe false id) (fun a b => rfl), ee]
          unfold srtE leE
          rw [map_sort (r := PySem.W.dataLe false ea) (s := PySem.W.dataLe false id) (fun a b => rfl)]
        rw [e4] at this; exact this
      exact q _ (srtE ea es) G2 _ s2 ⟨l, _, rfl, s1.back hl, s1.wd.gh.back hl, upd_same, hd2⟩ (px es hnd2 hall2)⟩
/-- sorted(a list of tuples, key=len) -/
theorem JL.sortedLen (B : Blt T) {ea : α → PyData} {w : W (List (List α))} (h : JE T F a S (eL (eT ea)) w) (hg : F.glo "sorted" = true := by kernel_rfl) (hg2 : F.glo "len" = true := by kernel_rfl) (na : ∀ env, starEach [a] env = (false, eval a env) :: starEach [] env := by exact fun _ => star_one rfl)
    (he : ∀ env, backTo pos (starEach [a] env) = (false, eval a env) :: backTo pos (starEach [] env) := by exact fun _ => rfl) (hpl : ∀ env, (backTo pos (starEach [a] env)).any (·.1) = false := by exact fun _ => back_ok rfl) :
    JL T F (.Call (.Name "sorted" p) [a] [⟨some "key", .Name "len" p2, p3⟩] pos) S (eT ea) (do let l ← w; pure (l.mergeSort fun x y => decide (x.length ≤ y.length))) :=
  ⟨fun X M σ G H C wd v P hp Q q => by
    obtain ⟨g1, g2⟩ := C.glo hg
    obtain ⟨g3, g4⟩ := C.glo hg2
    refine toE (pe_sortLen C.hu g1 (by rw [C.mg]; exact B.sorted) g3 (by rw [C.mg]; exact B.len) (pa_cons (peR a) pa_nil (na _)) (he _) (hpl _)) (h.run X M σ G H C wd v _ hp _ fun v ts G2 H2 s d px => ?_)
    obtain ⟨p', xs, rfl, h1, h2⟩ := dp_lst d
    refine ⟨_, rfl, p', xs, ts.map (eT ea), rfl, C.K ▸ s.wd.gh.sql h1, C.K ▸ s.wd.gh.dps h2, fun d hd => ?_, fun l hl => ?_⟩
    · obtain ⟨x, _, rfl⟩ := List.mem_map.mp hd; exact ⟨_, rfl⟩
    have hp : ∀ c ∈ (xs.zip (ts.map (eT ea))).mergeSort (PySem.W.dataLe false fun c => .int (lenD c.2)), Dp T.K G2 c.1 c.2 := fun c hc => dps_mem h2 c ((List.mergeSort_perm _ _).mem_iff.mp hc)
    have hd2 := dps_of_mem _ hp
    have e2 : ((xs.zip (ts.map (eT ea))).mergeSort (PySem.W.dataLe false fun c => .int (lenD c.2))).map (·.2) = (ts.mergeSort fun x y => decide (x.length ≤ y.length)).map (eT ea) := by
      rw [map_sort (r := PySem.W.dataLe false fun x : V × PyData => .int (lenD x.2)) (s := PySem.W.dataLe false fun d => .int (lenD d)) (fun a b => rfl), zip_snd (dps_len h2)]
      refine (map_sort (fun a b => ?_) ts).symm
      show decide (a.length ≤ b.length) = PySem.W.dataLe false (fun d => PyData.int (lenD d)) (eT ea a) (eT ea b)
      rw [PySem.W.dataLe_int]
      show decide (a.length ≤ b.length) = decide (((a.map ea).length : Int) ≤ ((b.map ea).length : Int))
      rw [List.length_map, List.length_map]
      exact decide_eq_decide.mpr (by omega)
    rw [e2] at hd2
    exact q _ _ G2 _ (s.trans (.laidN s.wd hl)) ⟨l, _, rfl, s.back hl, s.wd.gh.back hl, upd_same, hd2⟩ px⟩
/-! lists, tuples put together; slices -/
def rCatS (K : PySem.W.Frag) : R2 := fun x y H Q => ∃ l b xs zs, x = .ref l ∧ y = .ref b ∧ SqL K H l xs ∧ SqL K H b zs ∧ xs.length + zs.length ≤ sizeLine ∧ ∀ p, H p = none → Q (.ref p) (upd H p (.lst (xs ++ zs)))
theorem op_catS {X : Cx} : OpR X (binaryOp .Add) (rCatS X.K) := by
  intro pins s σ H x y v u Q I rx ry h
  obtain ⟨l, b, xs, zs, rfl, rfl, hH, hB, hz, q⟩ := h
  cases rx
  cases ry
  obtain ⟨its, r, ⟨o, n, ho, hc, hdn, hd⟩, hl⟩ := I.list hH
  obtain ⟨its2, r2, ⟨o2, n2, ho2, hc2, hdn2, hd2⟩, hl2⟩ := I.list hB
  obtain ⟨cls, dd, data, sl⟩ := o
  obtain ⟨cls2, dd2, data2, sl2⟩ := o2
  simp only at hc hd hc2 hd2
  subst hc hd hc2 hd2
  have e1 := r.length
  have e2 := r2.length
  refine concat_meets ⟨_, ho, rfl⟩ ⟨_, ho2, rfl⟩ noFill_list_add seq_list_add PySem.F.slot_list_add PySem.F.entry_list_add (PySem.F.args_list_add_2 _ _) (PyProof.Rows.list_addW l b its.toArray its2.toArray n n2 dd dd2 sl sl2 (by simp only [List.size_toArray]; omega)) ⟨ho, ho2, ?_⟩
  have ea : its.toArray ++ its2.toArray = (its ++ its2).toArray := by simp
  rw [ea]
  exact ⟨.ref _, _, I.lnew (t' := s.toks) (r.append r2) (by rw [List.length_append]; omega), rfl, q _ I.fresh⟩
theorem JL.cat {ea : α → PyData} {wa wb : W (List α)} (ha : JE T F a S (eL ea) wa) (hb : JE T F b S (eL ea) wb) : JL T F (.BinOp a .Add b pos) S ea (do let x ← wa; let y ← wb; gd (x.length + y.length ≤ 100000); pure (x ++ y)) :=
  ⟨fun X M σ G H C wd v P hp Q q => toE (pe_op op_catS (peR a) (peR b)) (JX.two ha hb C wd v (P := fun x y => x.length + y.length ≤ 100000 ∧ P (x ++ y)) hp fun v1 v2 x y G2 H2 s d1 d2 px => by
    obtain ⟨p, xs, rfl, h1, h2⟩ := dp_lst d1
    obtain ⟨p', ys, rfl, h3, h4⟩ := dp_lst d2
    refine ⟨p, p', xs, ys, rfl, rfl, C.K ▸ s.wd.gh.sql h1, C.K ▸ s.wd.gh.sql h3, sz (by rw [dps_len h2, dps_len h4, List.length_map, List.length_map]; exact px.1), fun l hl => q _ (x ++ y) G2 _ (s.trans (.laidN s.wd hl)) ⟨l, _, rfl, s.back hl, s.wd.gh.back hl, upd_same, ?_⟩ px.2⟩
    rw [List.map_append]; exact dps_app h2 h4)⟩
theorem JE.catT {ea : α → PyData} {wa wb : W (List α)} (ha : JE T F a S (eT ea) wa) (hb : JE T F b S (eT ea) wb) : JE T F (.BinOp a .Add b pos) S (eT ea) (do let x ← wa; let y ← wb; gd (x.length + y.length ≤ 100000); pure (x ++ y)) :=
  ⟨fun X M σ G H C wd v P hp Q q => toE (pe_op op_catA (peR a) (peR b)) (JX.two ha hb C wd v (P := fun x y => x.length + y.length ≤ 100000 ∧ P (x ++ y)) hp fun v1 v2 x y G2 H2 s d1 d2 px => by
    obtain ⟨p, xs, rfl, h1, h2⟩ := dp_tup d1
    obtain ⟨p', ys, rfl, h3, h4⟩ := dp_tup d2
    refine ⟨p, p', xs, ys, rfl, rfl, C.K ▸ s.wd.gh.sqt h1, C.K ▸ s.wd.gh.sqt h3, sz (by rw [dps_len h2, dps_len h4, List.length_map, List.length_map]; exact px.1), fun e => ?_, fun e1 e2 => ?_, fun e1 e2 r hr => ?_⟩
    · subst e
      have e0 : x = [] := List.map_eq_nil_iff.mp (List.length_eq_zero_iff.mp (by rw [← dps_len h2]; rfl))
      refine q _ (x ++ y) G2 H2 s ?_ px.2
      rw [e0]; exact d2
    · subst e2
      have e0 : y = [] := List.map_eq_nil_iff.mp (List.length_eq_zero_iff.mp (by rw [← dps_len h4]; rfl))
      refine q _ (x ++ y) G2 H2 s ?_ px.2
      rw [e0, List.append_nil]; exact d1
    · refine q _ (x ++ y) _ _ (s.trans (.laid s.wd hr)) (show Dp _ _ _ (.tuple ((x ++ y).map ea)) from ?_) px.2
      rw [List.map_append]
      exact .tup (.inl (.inl upd_same)) ((Stp.laid s.wd hr).gg.dps (dps_app h2 h4)))⟩
def JO (T : Tx) (F : Fr) (e : Option Expr) (S : List Sl) (w : W (Option Int)) : Prop := ∀ X : Cx, CxF T F X → ∃ t, PO X e t ∧ ∀ (M : MS) (σ : St) (G H : Hp), Wd M G H → View T M G σ S → ∀ P : Option Int → Prop, w P → ∀ Q : Option Int → Hp → Prop, (∀ o G2 H2, Stp M G H G2 H2 → P o → Q o H2) → t σ H Q
theorem JO.none : JO T F Option.none S (pure Option.none) := fun X C => ⟨_, po_none, fun M σ G H wd v P hp Q q => q _ G H (.refl wd) hp⟩
theorem JO.some {w : W Int} (h : JE T F e S eI w) : JO T F (Option.some e) S (do let i ← w; pure (Option.some i)) := fun X C => ⟨_, po_some (peR e), fun M σ G H wd v P hp Q q => h.run X M σ G H C wd v _ hp _ fun v i G2 H2 s d px => by cases d; exact ⟨i, rfl, q _ G2 H2 s px⟩⟩
def cutL (xs : List α) (lo hi : Option Int) : List α := (xs.drop (HT.sIx xs.length 0 lo)).take (HT.sIx xs.length xs.length hi - HT.sIx xs.length 0 lo)
theorem JL.slice {ea : α → PyData} {w : W (List α)} {w1 w2 : W (Option Int)} {lo hi : Option Expr} (h : JE T F a S (eL ea) w) (h1 : JO T F lo S w1) (h2 : JO T F hi S w2) : JL T F (.Subscript a (.Slice lo hi Option.none p2) pos) S ea (do let x ← w; let i ← w1; let j ← w2; pure (cutL x i j)) :=
  ⟨fun X M σ G H C wd v P hp Q q => by
    obtain ⟨t1, p1, f1⟩ := h1 X C
    obtain ⟨t2, p2, f2⟩ := h2 X C
    refine toE (pe_slice sl_list (peR a) p1 p2) (h.run X M σ G H C wd v _ hp _ fun v' x G2 H2 s d px => f1 M σ G2 H2 s.wd (v.up s.gg) _ px _ fun i G3 H3 s3 px => f2 M σ G3 H3 s3.wd (v.up (s.gg.trans s3.gg)) _ px _ fun j G4 H4 s4 px => ?_)
    obtain ⟨p', xs, rfl, e1, e2⟩ := dp_lst d
    have s' := (s.trans s3).trans s4
    refine ⟨p', xs, rfl, C.K ▸ ((s3.gg.trans s4.gg).trans s4.wd.gh).sql e1, fun l hl => q _ (cutL x i j) G4 _ (s'.trans (.laidN s'.wd hl)) ⟨l, _, rfl, s'.back hl, s'.wd.gh.back hl, upd_same, ?_⟩ px⟩
    have hd := (s3.gg.trans s4.gg).dps e2
    have hl := dps_len hd
    rw [List.length_map] at hl
    unfold cutV cutL
    rw [hl, List.map_take, List.map_drop]
    exact dps_take _ (dps_drop _ hd)⟩
/-! isinstance, the answer known of the kind -/
theorem JE.isi (B : Blt T) {ea : α → PyData} {w : W α} {Tn : String} {x : Str} {tp : Pos} (bb : Bool) (h : JE T F a S ea w) (hx : T.mg x = none) (hb : bootBuiltins x = some (.type Tn)) (hk : ∀ t, PySem.W.kitOne T.K (.type (tyN (ea t))) (.type Tn) = some bb)
    (hg : F.glo "isinstance" = true := by kernel_rfl) (hgx : F.glo x = true := by kernel_rfl) (hn : x ≠ "__name__" := by decide) (na : ∀ env, starEach [a, .Name x tp] env = (false, eval a env) :: starEach [.Name x tp] env := by exact fun _ => star_one rfl) : JE T F (.Call (.Name "isinstance" p) [a, .Name x tp] [] pos) S eB (do let _ ← w; pure bb) :=
  ⟨fun X M σ G H C wd v P hp Q q => by
    obtain ⟨g1, g2⟩ := C.glo hg
    obtain ⟨g3, g4⟩ := C.glo hgx
    have nb : starEach [Expr.Name x tp] X.env = (false, eval (.Name x tp) X.env) :: starEach [] X.env := star_one rfl
    refine toE (pe_callB call_isi g1 (by rw [C.mg]; exact B.isinstance) (by decide +kernel) (pa_cons (peR a) (pa_cons (pe_bltn (v := .ty Tn) g3 (by rw [C.mg]; exact hx) hb rfl hn g4) pa_nil nb) (na _)) (by decide) g2 (na _) (back_ok rfl)) (h.run X M σ G H C wd v _ hp _ fun v' t G2 H2 s d px =>
      ⟨v', .ty Tn, _, _, bb, rfl, .ty Tn, dp_ty (C.K ▸ s.wd.gh.dp d), C.K ▸ hk t, q _ bb G2 H2 s (.bl bb) px⟩)⟩
end
end DW
namespace DW
open PySem L2 PL PLS
/-! what a def promises -/
def SpX (T : Tx) {α ρ : Type} (ea : α → List XD) (er : ρ → XD) (m : α → W ρ) : Sp := fun vs H Q _ => ∃ (M : MS) (G : Hp) (a : α) (P : ρ → Prop), Wd M G H ∧ MIn T.mt M ∧ VpAll T M G vs (ea a) ∧ m a P ∧ ∀ v r G' H', Stp M G H G' H' → Rv T M H G' H' v (er r) → P r → Q v H'
/-- a def of the text keeps it, by level k -/
def FD (T : Tx) (x : Str) (k : Nat) (ps : List Str) {α ρ : Type} (ea : α → List XD) (er : ρ → XD) (m : α → W ρ) : Prop := DF T.P T.w T.K T.mg T.base x k ps (SpX T ea er m)
theorem Rv.back {T : Tx} {M : MS} {F G G2 H H2 H3 : Hp} {v : V} {x : XD} (s : Stp M F H G H2) (h : Rv T M H2 G2 H3 v x) : Rv T M H G2 H3 v x := by
  cases x with
  | d x => exact h
  | l xs => obtain ⟨p, vs, e1, e2, e3⟩ := h; exact ⟨p, vs, e1, s.back e2, e3⟩
  | p => exact h
  | q φ => exact φ.bk (fun a z => s.back z) h
section
variable {T : Tx} {F : Fr} {S : List Sl} {α β γ δ ε ρ : Type} {e a b c : Expr} {es rest : List Expr} {pos p p2 p3 : Pos}
theorem JX.call {x : Str} {k : Nat} {ps : List Str} {ea : α → List XD} {er : ρ → XD} {m : α → W ρ} {w : W α} (f : FD T x k ps ea er m) (ha : JA T F (e :: es) S ea w) (hk : k ≤ F.k := by decide) (hg : F.glo x = true := by kernel_rfl)
    (he : ∀ env, starEach (e :: es) env = (false, eval e env) :: starEach es env := by exact fun _ => star_one rfl) (hpl : ∀ env, (backTo pos (starEach es env)).any (·.1) = false := by exact fun _ => back_ok rfl) : JX T F (.Call (.Name x p) (e :: es) [] pos) S er (w >>= m) :=
  ⟨fun X M σ G H C wd v P hp Q q => by
    obtain ⟨g1, g2⟩ := C.glo hg
    have ex := f.ex
    rw [← C.tx] at ex
    obtain ⟨fa, fd, ok, gm, kp, b⟩ := ex
    refine toE (pe_call ok (C.room.mono hk) g1 gm kp b .nil pass0 (paR (e :: es)) g2 (he _) (hpl _)) (ha.run X M σ G H C wd v _ hp _ fun vs a G2 H2 s d pa => ?_)
    exact ⟨M, G2, a, P, s.wd, by rw [C.tx]; exact v.mt, by rw [List.append_nil, C.tx]; exact d, pa, fun v' r G3 H3 s3 hv pr => q v' r G3 H3 (s.trans s3) (by rw [C.tx] at hv; exact hv.back s) pr⟩⟩
end
/-! targets -/
def setAll : St → List Nat → List V → St
  | σ, j :: js, v :: vs => setAll (σ.set j (some v)) js vs
  | σ, _, _ => σ
def setS : List Sl → List Nat → List PyData → List Sl
  | S, j :: js, d :: ds => setS (S.set j (.d d)) js ds
  | S, _, _ => S
def wipeS : List Sl → List Nat → List Sl
  | S, [] => S
  | S, v :: vs => (wipeS S vs).set v .no
structure RdI (X : Cx) (tg iter : Expr) (σ : St) (H : Hp) (R : It → Hp → Prop) : Prop where
  run : ∀ (pins : List (Addr × Obj)) (s : Shared), Inv X pins σ H s → wpAny (model X.prog X.w) X.A (eval iter X.env) (fun v s1 => wpAny (model X.prog X.w) X.A (pyIter v) (PIE X pins σ tg R) X.xe s1) X.xe s
theorem piR {X : Cx} (tg iter : Expr) : PI X tg iter (fun σ H R => RdI X tg iter σ H R) := ⟨fun pins s _ _ _ I h => h.run pins s I⟩
theorem toI {X : Cx} {tg iter : Expr} {wi : TI} (h : PI X tg iter wi) {σ : St} {H : Hp} {R : It → Hp → Prop} (q : wi σ H R) : RdI X tg iter σ H R := ⟨fun pins s I => h.run pins s σ H R I q⟩
/-- what an iterator yields -/
structure Wk (M : MS) (K : PySem.W.Frag) (J : It) (G : Hp) (ds : List PyData) : Prop where
  stop : ∀ G1 H, Ex G G1 → Wd M G1 H → J.stop ds.length H
  go : ∀ i G1 H, i < ds.length → Ex G G1 → Wd M G1 H → J.go i H
  yld : ∀ i G1 H v H', i < ds.length → Ex G G1 → Wd M G1 H → J.yld i H v H' → ∃ d G2, ds[i]? = some d ∧ Stp M G1 H G2 H' ∧ Dp K G2 v d
section
variable (T : Tx) (F : Fr)
structure JI (tg iter : Expr) (S : List Sl) {α : Type} (enc : α → PyData) (w : W (List α)) : Prop where
  fs : ∀ env x, foldedSetIterable iter env x = pure x
  run : ∀ (X : Cx) (M : MS) (σ : St) (G H : Hp), CxF T F X → Wd M G H → View T M G σ S → ∀ P : List α → Prop, w P → ∀ R : It → Hp → Prop, (∀ J xs G2 H2, Stp M G H G2 H2 → Wk M T.K J G2 (xs.map enc) → P xs → R J H2) → RdI X tg iter σ H R
structure JG (tg : Expr) {α : Type} (enc : α → PyData) (js : List Nat) (up : α → List PyData) : Prop where
  run : ∀ (X : Cx) (G H : Hp) (σ : St) (v : V) (a : α), CxF T F X → Ex G H → Dp T.K G v (enc a) → ∀ Q : St → Hp → Prop, (∀ vs, DpAll T.K G vs (up a) → Q (setAll σ js vs) H) → RdG X tg v σ H Q
end
section
variable {T : Tx} {F : Fr} {S : List Sl} {α β γ δ ε ρ : Type} {e a b c : Expr} {es rest : List Expr} {pos p p2 p3 : Pos}
theorem JG.name {x : Str} {enc : α → PyData} (i : Nat) (h : F.sto i x = true := by kernel_rfl) : JG T F (.Name x p) enc [i] (fun t => [enc t]) :=
  ⟨fun X G H σ v a C gh d Q q => by
    obtain ⟨h1, h2, h3⟩ := C.sto h
    exact toG (pg_name C.nd h1 h2 h3) (q [v] (.cons d .nil))⟩
/-- targets in a row -/
structure JGs (T : Tx) (F : Fr) (tgs : List Expr) {α : Type} (encs : α → List PyData) (js : List Nat) (up : α → List PyData) : Prop where
  run : ∀ X : Cx, CxF T F X → ∃ t, PGs X tgs t ∧ ∀ (G H : Hp) (σ : St) (vs : List V) (a : α), Ex G H → DpAll T.K G vs (encs a) → ∀ Q : St → Hp → Prop, (∀ us, DpAll T.K G us (up a) → Q (setAll σ js us) H) → t vs σ H Q
theorem setAll_app {σ : St} {js ks : List Nat} : ∀ {us vs : List V}, us.length = js.length → setAll (setAll σ js us) ks vs = setAll σ (js ++ ks) (us ++ vs) := by
  induction js generalizing σ with
  | nil => intro us vs h; have : us = [] := List.length_eq_zero_iff.mp h; subst this; rfl
  | cons j js ih =>
    intro us vs h
    cases us with
    | nil => cases h
    | cons u us => exact ih (by simpa using h)
theorem JGs.nil : JGs T F [] (fun _ : α => []) [] (fun _ => []) := ⟨fun X C => ⟨_, pgs_nil, fun G H σ vs a gh d Q q => by cases d; exact ⟨rfl, q [] .nil⟩⟩⟩
theorem JGs.cons {tg : Expr} {tgs : List Expr} {e1 : α → PyData} {encs : α → List PyData} {js ks : List Nat} {up ups : α → List PyData} (h : JG T F tg e1 js up) (hl : ∀ a, (up a).length = js.length) (hr : JGs T F tgs encs ks ups)
    (hs : ∀ env, (assignEach (tg :: tgs) env).map (·.2) = assign tg env :: (assignEach tgs env).map (·.2) := by intro _; rfl) : JGs T F (tg :: tgs) (fun a => e1 a :: encs a) (js ++ ks) (fun a => up a ++ ups a) := ⟨fun X C => by
  obtain ⟨t, p, f⟩ := hr.run X C
  refine ⟨_, pgs_cons (pgR tg) p (hs _), fun G H σ vs a gh d Q q => ?_⟩
  cases d with
  | cons d1 d2 =>
    refine ⟨_, _, rfl, h.run X G H σ _ a C gh d1 _ fun us d3 => f G H _ _ a gh d2 _ fun us2 d4 => ?_⟩
    have z := q (us ++ us2) (dps_app d3 d4)
    rw [setAll_app (by rw [dps_len d3, hl])]; exact z⟩
theorem JG.tup {tgs : List Expr} {enc : α → PyData} {encs : α → List PyData} {js : List Nat} {up : α → List PyData} {k : Nat} (h : JGs T F tgs encs js up) (he : ∀ a, enc a = .tuple (encs a)) (n : Nat) (hl : ∀ a, (encs a).length = n)
    (hn : ∀ env, (assignEach tgs env).length = n := by intro _; rfl) (hst : ∀ env, (assignEach tgs env).findIdx? (·.1) = none := by intro _; rfl) : JG T F (.Tuple tgs k pos) enc js up :=
  ⟨fun X G H σ v a C gh d Q q => by
    obtain ⟨t, p, f⟩ := h.run X C
    refine toG (pg_tup C.calm p (hn _) (hst _)) ?_
    rw [he] at d
    obtain ⟨ad, xs, rfl, h1, h2⟩ := dp_tup d
    exact ⟨ad, xs, rfl, C.K ▸ gh.sqt h1, by rw [dps_len h2, hl], f G H σ xs a gh h2 Q q⟩⟩
/-- a, b of a pair -/
theorem JG.two {x y : Expr} {k : Nat} {ea : α → PyData} {eb : β → PyData} {js ks : List Nat} {u1 : α → List PyData} {u2 : β → List PyData} (h1 : JG T F x ea js u1) (h2 : JG T F y eb ks u2) (l1 : ∀ t, (u1 t).length = js.length := by intro _; rfl) (l2 : ∀ t, (u2 t).length = ks.length := by intro _; rfl)
    (a1 : ∀ env, (assignEach [x, y] env).map (·.2) = assign x env :: (assignEach [y] env).map (·.2) := by intro _; rfl) (a2 : ∀ env, (assignEach [y] env).map (·.2) = assign y env :: (assignEach [] env).map (·.2) := by intro _; rfl)
    (hn : ∀ env, (assignEach [x, y] env).length = 2 := by intro _; rfl) (hst : ∀ env, (assignEach [x, y] env).findIdx? (·.1) = none := by intro _; rfl) : JG T F (.Tuple [x, y] k pos) (eP ea eb) (js ++ ks) (fun t => u1 t.1 ++ u2 t.2) :=
  JG.tup (encs := fun t : α × β => [ea t.1, eb t.2]) (up := fun t : α × β => u1 t.1 ++ u2 t.2) (by
    have g1 : JG T F x (fun t : α × β => ea t.1) js (fun t => u1 t.1) := ⟨fun X G H σ v a C gh d Q q => h1.run X G H σ v a.1 C gh d Q q⟩
    have g2 : JG T F y (fun t : α × β => eb t.2) ks (fun t => u2 t.2) := ⟨fun X G H σ v a C gh d Q q => h2.run X G H σ v a.2 C gh d Q q⟩
    have := JGs.cons g1 (fun t => l1 t.1) (JGs.cons g2 (fun t => l2 t.2) JGs.nil a2) a1
    simpa using this) (fun _ => rfl) 2 (fun _ => rfl) hn hst
theorem JG.three {x y z : Expr} {k : Nat} {ea : α → PyData} {eb : β → PyData} {ec : γ → PyData} {js ks ls : List Nat} {u1 : α → List PyData} {u2 : β → List PyData} {u3 : γ → List PyData} (h1 : JG T F x ea js u1) (h2 : JG T F y eb ks u2) (h3 : JG T F z ec ls u3) (l1 : ∀ t, (u1 t).length = js.length := by intro _; rfl) (l2 : ∀ t, (u2 t).length = ks.length := by intro _; rfl) (l3 : ∀ t, (u3 t).length = ls.length := by intro _; rfl)
    (a1 : ∀ env, (assignEach [x, y, z] env).map (·.2) = assign x env :: (assignEach [y, z] env).map (·.2) := by intro _; rfl) (a2 : ∀ env, (assignEach [y, z] env).map (·.2) = assign y env :: (assignEach [z] env).map (·.2) := by intro _; rfl) (a3 : ∀ env, (assignEach [z] env).map (·.2) = assign z env :: (assignEach [] env).map (·.2) := by intro _; rfl)
    (hn : ∀ env, (assignEach [x, y, z] env).length = 3 := by intro _; rfl) (hst : ∀ env, (assignEach [x, y, z] env).findIdx? (·.1) = none := by intro _; rfl) : JG T F (.Tuple [x, y, z] k pos) (eP3 ea eb ec) (js ++ (ks ++ ls)) (fun t => u1 t.1 ++ (u2 t.2.1 ++ u3 t.2.2)) :=
  JG.tup (encs := fun t : α × β × γ => [ea t.1, eb t.2.1, ec t.2.2]) (up := fun t : α × β × γ => u1 t.1 ++ (u2 t.2.1 ++ u3 t.2.2)) (by
    have g1 : JG T F x (fun t : α × β × γ => ea t.1) js (fun t => u1 t.1) := ⟨fun X G H σ v a C gh d Q q => h1.run X G H σ v a.1 C gh d Q q⟩
    have g2 : JG T F y (fun t : α × β × γ => eb t.2.1) ks (fun t => u2 t.2.1) := ⟨fun X G H σ v a C gh d Q q => h2.run X G H σ v a.2.1 C gh d Q q⟩
    have g3 : JG T F z (fun t : α × β × γ => ec t.2.2) ls (fun t => u3 t.2.2) := ⟨fun X G H σ v a C gh d Q q => h3.run X G H σ v a.2.2 C gh d Q q⟩
    have := JGs.cons g1 (fun t => l1 t.1) (JGs.cons g2 (fun t => l2 t.2.1) (JGs.cons g3 (fun t => l3 t.2.2) JGs.nil a3) a2) a1
    simpa using this) (fun _ => rfl) 3 (fun _ => rfl) hn hst
/-! sources of items -/
theorem Wk.list {M : MS} {K : PySem.W.Frag} {G : Hp} {a : Addr} {xs : List V} {ds : List PyData} (h : SqL K G a xs) (hd : DpAll K G xs ds) : Wk M K (Itl K a) G ds where
  stop := fun G1 H x w => ⟨xs, (x.trans w.gh).sql h, by rw [dps_len hd]; exact Nat.le_refl _⟩
  go := fun i G1 H hi x w => ⟨xs, xs[i]'(by rw [dps_len hd]; exact hi), (x.trans w.gh).sql h, by simp⟩
  yld := fun i G1 H v H' hi x w ⟨e, y⟩ => by
    subst e
    obtain ⟨d, e1, e2⟩ := dps_getV hd (y xs ((x.trans w.gh).sql h))
    exact ⟨d, G1, e1, .refl w, x.dp e2⟩
theorem Wk.tup {M : MS} {K : PySem.W.Frag} {G : Hp} {a : Addr} {xs : List V} {ds : List PyData} (h : SqT K G a xs) (hd : DpAll K G xs ds) : Wk M K (Itt K a) G ds where
  stop := fun G1 H x w => ⟨xs, (x.trans w.gh).sqt h, by rw [dps_len hd]; exact Nat.le_refl _⟩
  go := fun i G1 H hi x w => ⟨xs, xs[i]'(by rw [dps_len hd]; exact hi), (x.trans w.gh).sqt h, by simp⟩
  yld := fun i G1 H v H' hi x w ⟨e, y⟩ => by
    subst e
    obtain ⟨d, e1, e2⟩ := dps_getV hd (y xs ((x.trans w.gh).sqt h))
    exact ⟨d, G1, e1, .refl w, x.dp e2⟩
theorem JI.list {tg : Expr} {enc : α → PyData} {w : W (List α)} (h : JE T F e S (eL enc) w) (hs : ∀ env x, foldedSetIterable e env x = pure x := by intro _ _; rfl) : JI T F tg e S enc w :=
  ⟨hs, fun X M σ G H C wd v P hp R r => toI (pi_list (peR e)) (h.run X M σ G H C wd v P hp _ fun v' t G2 H2 s d pt => by
    obtain ⟨a, xs, rfl, h1, h2⟩ := dp_lst d
    exact ⟨a, rfl, ⟨xs, C.K ▸ s.wd.gh.sql h1⟩, by rw [C.K]; exact r _ t G2 H2 s (.list h1 h2) pt⟩)⟩
theorem JI.tup {tg : Expr} {enc : α → PyData} {w : W (List α)} (h : JE T F e S (eT enc) w) (hs : ∀ env x, foldedSetIterable e env x = pure x := by intro _ _; rfl) : JI T F tg e S enc w :=
  ⟨hs, fun X M σ G H C wd v P hp R r => toI (pi_tup (peR e)) (h.run X M σ G H C wd v P hp _ fun v' t G2 H2 s d pt => by
    obtain ⟨a, xs, rfl, h1, h2⟩ := dp_tup d
    exact ⟨a, rfl, ⟨xs, C.K ▸ s.wd.gh.sqt h1⟩, by rw [C.K]; exact r _ t G2 H2 s (.tup h1 h2) pt⟩)⟩
theorem Wk.range {M : MS} {K : PySem.W.Frag} {G : Hp} {lo : Int} {n : Nat} : Wk M K (Itr lo n) G ((List.range n).map fun i => PyData.int (lo + (i : Nat))) where
  stop := fun G1 H x w => by show n ≤ _; simp
  go := fun i G1 H hi x w => by show i < n; simpa using hi
  yld := fun i G1 H v H' hi x w ⟨e1, e2⟩ => by
    subst e1; subst e2
    have hi : i < n := by simpa using hi
    exact ⟨_, G1, by simp [hi], .refl w, .int _⟩
theorem rgI0 (n : Int) : (rgI 0 n).map eI = (List.range n.toNat).map fun i => PyData.int (0 + (i : Nat)) := by
  unfold rgI; rw [List.map_map, Int.sub_zero]; rfl
theorem JI.range1 (B : Blt T) {tg : Expr} {w : W Int} (h : JE T F a S eI w) (hg : F.glo "range" = true := by kernel_rfl) (na : ∀ env, starEach [a] env = (false, eval a env) :: starEach [] env := by exact fun _ => star_one rfl) (nl : ∀ env, starEach [a] env = [(false, eval a env)] := by exact fun _ => star_last rfl) (hs : ∀ env x, foldedSetIterable (.Call (.Name "range" p) [a] [] pos) env x = pure x := by intro _ _; rfl) : JI T F tg (.Call (.Name "range" p) [a] [] pos) S eI (do let n ← w; gd (-(2 ^ 62) ≤ n ∧ n < 2 ^ 62); pure (rgI 0 n)) :=
  ⟨hs, fun X M σ G H C wd v P hp R r => by
    obtain ⟨g1, g2⟩ := C.glo hg
    refine toI (pi_range1 g1 (by rw [C.mg]; exact B.range) (paR [a]) (nl _)) (toA (pa_cons (peR a) pa_nil (na _)) (h.run X M σ G H C wd v _ hp _ fun v' n G2 H2 s d pt => ?_))
    cases d
    exact ⟨n, rfl, pt.1.1, pt.1.2, r _ _ G2 H2 s (by rw [rgI0]; exact .range) pt.2⟩⟩
theorem JI.range2 (B : Blt T) {tg : Expr} {wa wb : W Int} (ha : JE T F a S eI wa) (hb : JE T F b S eI wb) (hg : F.glo "range" = true := by kernel_rfl) (h1 : ∀ env, starEach [a, b] env = (false, eval a env) :: starEach [b] env := by exact fun _ => star_one rfl) (h2 : ∀ env, starEach [b] env = (false, eval b env) :: starEach [] env := by exact fun _ => star_one rfl)
    (nl : ∀ env, starEach [a, b] env = [(false, eval a env), (false, eval b env)] := by intro _; rw [star_one rfl, star_last rfl]) (n2 : ∀ env, starEach [b] env = [(false, eval b env)] := by exact fun _ => star_last rfl) (hs : ∀ env x, foldedSetIterable (.Call (.Name "range" p) [a, b] [] pos) env x = pure x := by intro _ _; rfl) : JI T F tg (.Call (.Name "range" p) [a, b] [] pos) S eI (do let n ← wa; let m ← wb; gd (-(2 ^ 62) ≤ n ∧ n < 2 ^ 62 ∧ -(2 ^ 62) ≤ m ∧ m < 2 ^ 62); pure (rgI n m)) :=
  ⟨hs, fun X M σ G H C wd v P hp R r => by
    obtain ⟨g1, g2⟩ := C.glo hg
    refine toI (pi_range2 g1 (by rw [C.mg]; exact B.range) (paR [a, b]) (nl _) (n2 _)) (JX.args2 ha hb h1 h2 C wd v (P := fun n m => (-(2 ^ 62) ≤ n ∧ n < 2 ^ 62 ∧ -(2 ^ 62) ≤ m ∧ m < 2 ^ 62) ∧ P (rgI n m)) hp fun v1 v2 n m G2 H2 s d1 d2 pt => ?_)
    cases d1; cases d2
    exact ⟨n, m, rfl, pt.1, r _ _ G2 H2 s (by unfold rgI; rw [List.map_map]; exact .range) pt.2⟩⟩
end
end DW
namespace DW
open PySem L2 PL PLS
/-! what a comprehension gathers -/
section
variable {α β γ : Type}
def cmpW (xs : List α) (c : α → W Bool) (f : α → W β) : W (List β) := match xs with
  | [] => pure []
  | x :: xs => do
    let b ← c x
    if b then do
      let y ← f x
      let ys ← cmpW xs c f
      pure (y :: ys)
    else cmpW xs c f
/-- .. behind what is gathered; of two clauses -/
def cmpA (xs : List α) (c : α → W Bool) (f : α → W β) (acc : List β) : W (List β) := match xs with
  | [] => pure acc
  | x :: xs => do
    let b ← c x
    if b then do
      let y ← f x
      gd (acc.length < 100000)
      cmpA xs c f (acc ++ [y])
    else cmpA xs c f acc
def cmp2A (xs : List α) (c : α → W Bool) (g : α → W (List β)) (c1 : α → β → W Bool) (f : α → β → W γ) (acc : List γ) : W (List γ) := match xs with
  | [] => pure acc
  | x :: xs => do
    let b ← c x
    if b then do
      let ys ← g x
      let l ← cmpA ys (c1 x) (f x) acc
      cmp2A xs c g c1 f l
    else cmp2A xs c g c1 f acc
end
/-! slots set, wiped -/
theorem setAll_len : ∀ {js : List Nat} {σ : St} {vs : List V}, (setAll σ js vs).length = σ.length
  | [], σ, vs => by cases vs <;> rfl
  | j :: js, σ, [] => rfl
  | j :: js, σ, v :: vs => by rw [setAll, setAll_len, List.length_set]
theorem setAll_out : ∀ {js : List Nat} {σ : St} {vs : List V} {i : Nat}, i ∉ js → (setAll σ js vs)[i]? = σ[i]?
  | [], σ, vs, i, _ => by cases vs <;> rfl
  | j :: js, σ, [], i, _ => rfl
  | j :: js, σ, v :: vs, i, h => by
    rw [setAll, setAll_out (fun m => h (List.mem_cons_of_mem _ m)), List.getElem?_set_ne (fun e => h (by subst e; exact List.mem_cons_self))]
theorem wipe_in : ∀ {vs : List Nat} {σ : St} {i : Nat}, i ∈ vs → i < σ.length → (wipe σ vs)[i]? = some none
  | v :: vs, σ, i, h, hl => by
    show ((wipe σ vs).set v none)[i]? = _
    by_cases e : v = i
    · subst e; rw [List.getElem?_set_self (by rw [wipe_length]; exact hl)]
    · rw [List.getElem?_set_ne e]
      exact wipe_in ((List.mem_cons.mp h).resolve_left fun z => e z.symm) hl
theorem wipe_set {vs js : List Nat} {σ : St} {us : List V} (h : ∀ j ∈ js, j ∈ vs) : wipe (setAll (wipe σ vs) js us) vs = wipe σ vs := by
  apply List.ext_getElem?
  intro i
  by_cases hi : i ∈ vs
  · by_cases hl : i < σ.length
    · rw [wipe_in hi (by rw [setAll_len, wipe_length]; exact hl), wipe_in hi hl]
    · rw [List.getElem?_eq_none (by rw [wipe_length, setAll_len, wipe_length]; omega), List.getElem?_eq_none (by rw [wipe_length]; omega)]
  · rw [wipe_out hi, setAll_out fun m => hi (h i m)]
theorem View.wipe {T : Tx} {M : MS} {G : Hp} {σ : St} {S : List Sl} (h : View T M G σ S) : ∀ vs : List Nat, View T M G (wipe σ vs) (wipeS S vs)
  | [] => h
  | v :: vs => ⟨h.mt, fun i s hi => by
    have ih := View.wipe h vs
    show SlV T M G ((L2.wipe σ vs).set v none)[i]? s
    have hi : ((wipeS S vs).set v .no)[i]? = some s := hi
    by_cases e : v = i
    · subst e
      rw [List.getElem?_set] at hi
      rw [if_pos rfl] at hi
      split at hi
      · cases hi; trivial
      · cases hi
    · rw [List.getElem?_set_ne e] at hi ⊢
      exact ih.at_ i s hi⟩
theorem View.set1 {T : Tx} {M : MS} {G : Hp} {σ : St} {S : List Sl} {j : Nat} {v : V} {d : PyData} (h : View T M G σ S) (hd : Dp T.K G v d) (hj : j < σ.length) : View T M G (σ.set j (some v)) (S.set j (.d d)) := ⟨h.mt, fun i s hi => by
  by_cases e : j = i
  · subst e
    rw [List.getElem?_set, if_pos rfl] at hi
    split at hi
    · cases hi; exact ⟨v, by rw [List.getElem?_set_self hj], hd⟩
    · cases hi
  · rw [List.getElem?_set_ne e] at hi ⊢
    exact h.at_ i s hi⟩
theorem View.sets {T : Tx} {M : MS} {G : Hp} : ∀ {js : List Nat} {σ : St} {S : List Sl} {vs : List V} {ds : List PyData}, View T M G σ S → DpAll T.K G vs ds → (∀ j ∈ js, j < σ.length) → View T M G (setAll σ js vs) (setS S js ds)
  | [], σ, S, vs, ds, h, hd, _ => by cases hd <;> exact h
  | j :: js, σ, S, _, _, h, .nil, _ => h
  | j :: js, σ, S, _, _, h, .cons (v := v) (d := d) (vs := vs) (ds := ds) h1 h2, hl => by
    show View T M G (setAll (σ.set j (some v)) js vs) (setS (S.set j (.d d)) js ds)
    exact View.sets (h.set1 h1 (hl j List.mem_cons_self)) h2 fun i m => by rw [List.length_set]; exact hl i (List.mem_cons_of_mem _ m)
/-! loops of comprehensions over any source -/
theorem lc_wk {M : MS} {K : PySem.W.Frag} {J : It} {G : Hp} {ds : List PyData} {g : TG} {tt : TT} {te : TE} {vs : List Nat} {σ : St} {H1 : Hp} {D : Addr} {Qd : Hp → Prop} (wk : Wk M K J G ds) (Pv : Nat → Hp → Prop) (h0 : Pv 0 (upd H1 D (.lst []))) (hp : ∀ i H, Pv i H → ∃ G1, Ex G G1 ∧ Wd M G1 H)
    (hs : ∀ i d v H H', ds[i]? = some d → Pv i H → (∀ G1, Ex G G1 → Wd M G1 H → ∃ G2, Stp M G1 H G2 H' ∧ Dp K G2 v d) → g v (wipe σ vs) H' fun σ2 H2 => wipe σ2 vs = wipe σ vs ∧ tt σ2 H2 fun b H3 =>
      if b = true then te σ2 H3 fun y H4 => ∃ acc, H4 D = some (.lst acc) ∧ acc.length < sizeLine ∧ Pv (i + 1) (upd H4 D (.lst (acc ++ [y]))) else Pv (i + 1) H3) (hd : ∀ H, Pv ds.length H → Qd H) :
    ∃ W : Nat → Nat → Hp → Prop, (∃ m, W 0 m (upd H1 D (.lst []))) ∧ ∀ i m H, W i m H →
      (J.stop i H ∧ Qd H) ∨ (J.go i H ∧ ∃ Nx : Hp → Prop, (∀ H', Nx H' → ∃ m', m' < m ∧ W (i + 1) m' H') ∧ ∀ x H', J.yld i H x H' → g x (wipe σ vs) H' fun σ2 H2 => wipe σ2 vs = wipe σ vs ∧ tt σ2 H2 fun b H3 =>
        if b = true then te σ2 H3 fun y H4 => ∃ acc, H4 D = some (.lst acc) ∧ acc.length < sizeLine ∧ Nx (upd H4 D (.lst (acc ++ [y]))) else Nx H3) := by
  refine ⟨fun i m H => m = ds.length - i ∧ i ≤ ds.length ∧ Pv i H, ⟨ds.length, by simp, Nat.zero_le _, h0⟩, ?_⟩
  rintro i m H ⟨rfl, hi, p⟩
  obtain ⟨G1, x, w⟩ := hp i H p
  by_cases hlt : i < ds.length
  · refine .inr ⟨wk.go i G1 H hlt x w, Pv (i + 1), fun H' p' => ⟨ds.length - (i + 1), by omega, rfl, hlt, p'⟩, fun v H' y => ?_⟩
    refine hs i ds[i] v H H' (by simp [hlt]) p fun G1 x w => ?_
    obtain ⟨d, G2, e, s, h⟩ := wk.yld i G1 H v H' hlt x w y
    have : d = ds[i] := by simp [hlt] at e; exact e.symm
    exact ⟨G2, s, this ▸ h⟩
  · have e : i = ds.length := by omega
    subst e
    exact .inl ⟨wk.stop G1 H x w, hd H p⟩
section
variable {X : Cx} {M : MS}
/-- the new list so far -/
def LcW (K : PySem.W.Frag) (M : MS) (G1 H1 : Hp) (Dl : Addr) {β : Type} (enc : β → PyData) (R : List β → Prop) (H' : Hp) : Prop :=
  ∃ Gi acc ys, Stp M G1 H1 Gi H' ∧ Gi Dl = none ∧ H' Dl = some (.lst acc) ∧ DpAll K Gi acc (ys.map enc) ∧ R ys
theorem LcW.wd {K : PySem.W.Frag} {G1 H1 : Hp} {Dl : Addr} {β : Type} {enc : β → PyData} {R : List β → Prop} {H' : Hp} (h : LcW K M G1 H1 Dl enc R H') : ∃ G, Ex G1 G ∧ Wd M G H' := let ⟨Gi, _, _, s, _⟩ := h; ⟨Gi, s.gg, s.wd⟩
end
section
variable {T : Tx} {F : Fr} {S : List Sl} {α β γ δ ε ρ : Type} {e elt iter tg c : Expr} {es rest : List Expr} {pos p p2 p3 : Pos} {scope : Scope}
abbrev ownOf (F : Fr) (vs : List Nat) : List (Str × Nat) := vs.map fun j => (F.N.getD j "", j)
theorem own_map {F : Fr} {vs : List Nat} : (ownOf F vs).map (·.2) = vs := by rw [List.map_map]; exact List.map_id'' (fun _ => rfl) vs
/-- a list comprehension: as a value, as what a name on its line gets -/
structure JC (T : Tx) (F : Fr) (e : Expr) (S : List Sl) {α : Type} (enc : α → PyData) (w : W (List α)) : Prop where
  run : ∀ X : Cx, CxF T F X → ∃ te, PE X e te ∧ (∀ (i : Nat) (y : Str) (yp spos : Pos), X.N[i]? = some y → X.env.scope.names.lookup y = some .local → swapsWith e (some (.Name y yp)) spos.line X.env = pure true → PS X (.Assign [.Name y yp] e spos) (tAsg te (gName i))) ∧
    ∀ (M : MS) (σ : St) (G H : Hp), Wd M G H → View T M G σ S → (∀ j : Nat, j < X.N.length → j < σ.length) → ∀ P : List α → Prop, w P → ∀ Q : VK, (∀ v t G2 H2, Stp M G H G2 H2 → Rv T M H G2 H2 v (.l (t.map enc)) → P t → Q v H2) → te σ H Q
/-- the turn of a source of a comprehension, of one clause -/
theorem lc_turn {enc : β → PyData} {M : MS} {G1 H1 H' : Hp} {Dl : Addr} {tt : TT} {te : TE} {σ2 : St} {x : α} {xs : List α} {wc : α → W Bool} {we : α → W β} {P : List β → Prop} {i : Nat}
    {Gi G3 H2 : Hp} {acc : List V} {ys : List β} (hD : H1 Dl = none) (s : Stp M G1 H1 Gi H') (gD : Gi Dl = none) (hl : H' Dl = some (.lst acc)) (hd : DpAll T.K Gi acc (ys.map enc)) (hy : ys.length ≤ i) (r : cmpW (x :: xs) wc we fun r => P (ys ++ r)) (hi : i < 100000) (s3 : Stp M Gi H' G3 H2) (v3 : View T M G3 σ2 S)
    (ht : ∀ G H, Wd M G H → View T M G σ2 S → ∀ P : Bool → Prop, wc x P → ∀ Q : Bool → Hp → Prop, (∀ t G2 H2, Stp M G H G2 H2 → P t → Q t H2) → tt σ2 H Q)
    (he : ∀ G H, Wd M G H → View T M G σ2 S → ∀ P : β → Prop, we x P → ∀ Q : VK, (∀ v t G2 H2, Stp M G H G2 H2 → Dp T.K G2 v (enc t) → P t → Q v H2) → te σ2 H Q) :
    tt σ2 H2 fun b H3 => if b = true then te σ2 H3 fun y H4 => ∃ acc, H4 Dl = some (.lst acc) ∧ acc.length < sizeLine ∧ LcW T.K M G1 H1 Dl enc (fun ys => ys.length ≤ i + 1 ∧ cmpW xs wc we fun r => P (ys ++ r)) (upd H4 Dl (.lst (acc ++ [y]))) else LcW T.K M G1 H1 Dl enc (fun ys => ys.length ≤ i + 1 ∧ cmpW xs wc we fun r => P (ys ++ r)) H3 := by
  have nmD := s.nm hD
  have hl3 : H2 Dl = some (.lst acc) := s3.hh Dl _ nmD hl
  have gD3 : G3 Dl = none := s3.none (some_ne hl) gD
  refine ht G3 H2 s3.wd v3 _ r _ fun b G4 H4 s4 pb => ?_
  have hl4 : H4 Dl = some (.lst acc) := s4.hh Dl _ nmD hl3
  have gD4 : G4 Dl = none := s4.none (some_ne hl3) gD3
  cases b with
  | false => exact iteF ⟨G4, acc, ys, (s.trans s3).trans s4, gD4, hl4, (s3.gg.trans s4.gg).dps hd, by omega, pb⟩
  | true =>
    refine iteT (he G4 H4 s4.wd (v3.up s4.gg) _ pb _ fun y z G5 H5 s5 hz pz => ?_)
    have hl5 : H5 Dl = some (.lst acc) := s5.hh Dl _ nmD hl4
    have gD5 : G5 Dl = none := s5.none (some_ne hl4) gD4
    have st := ((s.trans s3).trans s4).trans s5
    refine ⟨acc, hl5, sz' (by rw [dps_len hd, List.length_map]; omega), G5, acc ++ [y], ys ++ [z], st.mut hD gD5, gD5, upd_same, ?_, by simp; omega, ?_⟩
    · rw [List.map_append]; exact dps_app (((s3.gg.trans s4.gg).trans s5.gg).dps hd) (.cons hz .nil)
    · have z2 : cmpW xs wc we (fun r => P (ys ++ (z :: r))) := pz
      have e : (fun r => P (ys ++ (z :: r))) = fun r => P ((ys ++ [z]) ++ r) := by funext r; rw [List.append_assoc]; rfl
      rw [e] at z2; exact z2
/-! the block's own readings -/
def bkG (X : Cx) (scope : Scope) (tg : Expr) : TG := fun v σ H Q => ∀ (s : Shared) (H0 : Hp) (C : Addr) (cl : List (Str × Addr)) (fp : List Addr), RdG (X.blk s H0 scope (compEnvC scope cl C X.env) fp) tg v σ H Q
theorem bk_pg {X : Cx} {scope : Scope} {tg : Expr} (s : Shared) (H0 : Hp) (C : Addr) (cl : List (Str × Addr)) (fp : List Addr) : PG (X.blk s H0 scope (compEnvC scope cl C X.env) fp) tg (bkG X scope tg) := ⟨fun pins st _ _ _ u _ I r h => (h s H0 C cl fp).run pins st u I r⟩
def bkI (X : Cx) (scope : Scope) (tg iter : Expr) : TI := fun σ H R => ∀ (s : Shared) (H0 : Hp) (C : Addr) (cl : List (Str × Addr)) (fp : List Addr), RdI (X.blk s H0 scope (compEnvC scope cl C X.env) fp) tg iter σ H R
theorem bk_pi {X : Cx} {scope : Scope} {tg iter : Expr} (s : Shared) (H0 : Hp) (C : Addr) (cl : List (Str × Addr)) (fp : List Addr) : PI (X.blk s H0 scope (compEnvC scope cl C X.env) fp) tg iter (bkI X scope tg iter) := ⟨fun pins st _ _ _ I h => (h s H0 C cl fp).run pins st I⟩
theorem map_get {f : α → β} {xs : List α} {i : Nat} {d : β} (h : (xs.map f)[i]? = some d) : ∃ x, xs[i]? = some x ∧ d = f x := by
  rw [List.getElem?_map] at h
  cases q : xs[i]? with
  | none => rw [q] at h; cases h
  | some x => rw [q] at h; exact ⟨x, rfl, (Option.some.inj h).symm⟩
theorem drop_get {xs : List α} {i : Nat} {x : α} (h : xs[i]? = some x) : xs.drop i = x :: xs.drop (i + 1) := by
  obtain ⟨h1, h2⟩ := List.getElem?_eq_some_iff.mp h
  rw [List.drop_eq_getElem_cons h1, h2]
theorem JC.l {enc : α → PyData} {w : W (List α)} (h : JC T F e S enc w) : JL T F e S enc w := ⟨fun X M σ G H C wd v P hp Q q => ⟨fun pins s I => by
  obtain ⟨te, pe, _, f⟩ := h.run X C
  exact (toE pe (f M σ G H wd v (fun j hj => by rw [I.len]; exact hj) P hp Q q)).run pins s I⟩⟩
/-- one clause -/
theorem JC.gen {vs js : List Nat} {enc0 : α → PyData} {up : α → List PyData} {enc : β → PyData} {ws : W (List α)} {wc : α → W Bool} {we : α → W β} {ifs : List Expr} (hi : JI T F tg iter S enc0 ws) (hg : JG T (F.blk scope) tg enc0 js up)
    (hc : ∀ X : Cx, CxF T F X → ∃ tt : TT, (Blk X scope fun Y => PTs Y ifs tt) ∧ ∀ x (M : MS) (σ : St) (G H : Hp), Wd M G H → View T M G σ (setS (wipeS S vs) js (up x)) → ∀ P : Bool → Prop, wc x P → ∀ Q : Bool → Hp → Prop, (∀ t G2 H2, Stp M G H G2 H2 → P t → Q t H2) → tt σ H Q)
    (he : ∀ x, JE T (F.blk scope) elt (setS (wipeS S vs) js (up x)) enc (we x)) (ok : blkC F.N F.sc scope (ownOf F vs) = true) (hj : ∀ j ∈ js, j ∈ vs ∧ j < F.N.length) : JC T F (.ListComp elt [⟨tg, iter, ifs, 0⟩] scope pos) S enc (do let xs ← ws; gd (xs.length < 100000); cmpW xs wc we) := ⟨fun X C => by
  obtain ⟨bok, bcx⟩ := C.blk ok
  obtain ⟨tt, htt, ftt⟩ := hc X C
  have fs : ∀ x, foldedSetIterable iter X.env x = pure x := hi.fs _
  refine ⟨_, pe_lc (g := bkG X scope tg) (tt := tt) (te := bkE X scope elt) C.calm C.nd (piR tg iter) bok (fun s H C cl fp => bk_pg s H C cl fp) htt (fun s H C cl fp => bk_pe s H C cl fp) fs,
    fun i y yp spos a b c => ps_setLc (g := bkG X scope tg) (tt := tt) (te := bkE X scope elt) C.calm C.nd a b c (piR tg iter) bok (fun s H C cl fp => bk_pg s H C cl fp) htt (fun s H C cl fp => bk_pe s H C cl fp) fs, fun M σ G H wd v hlen P hp Q q => ?_⟩
  refine hi.run X M σ G H C wd v _ hp _ fun J xs G2 H2 s wk pxs Dl hD => ?_
  obtain ⟨hz, pxs⟩ := pxs
  rw [own_map]
  refine lc_wk wk (fun i H' => LcW T.K M G2 H2 Dl enc (fun ys => ys.length ≤ i ∧ cmpW (xs.drop i) wc we fun r => P (ys ++ r)) H') ⟨G2, [], [], .laidN s.wd hD, s.wd.gh.back hD, upd_same, .nil, Nat.zero_le _, by simpa using pxs⟩ (fun i H' l => l.wd) (fun i d u H' H3 hd l hu => ?_) (fun H' l => ?_)
  · obtain ⟨x, hx, rfl⟩ := map_get hd
    have hi' : i < xs.length := (List.getElem?_eq_some_iff.mp hx).1
    rw [drop_get hx] at l
    intro s0 H0 Ca cl fp
    obtain ⟨Gi, acc, ys, si, gD, hl, hda, hy, r⟩ := l
    obtain ⟨G3, s3, d3⟩ := hu Gi si.gg si.wd
    refine hg.run _ G3 H3 _ u x (bcx s0 H0 Ca cl fp) s3.wd.gh d3 _ fun us hus => ⟨wipe_set fun j m => (hj j m).1, ?_⟩
    have v3 : View T M G3 (setAll (wipe σ vs) js us) (setS (wipeS S vs) js (up x)) := View.sets ((v.up (s.gg.trans (si.gg.trans s3.gg))).wipe vs) hus fun j m => by rw [wipe_length]; exact hlen j (by rw [C.N]; exact (hj j m).2)
    refine lc_turn (wc := wc) (we := we) hD si gD hl hda hy r (by omega) s3 v3 (fun G H w v P hp Q q => ftt x M _ G H w v P hp Q q) (fun G H w v P hp Q q => fun s0 H0 Ca cl fp => (he x).run _ M _ G H (bcx s0 H0 Ca cl fp) w v P hp Q q)
  · obtain ⟨Gi, acc, ys, si, gD, hl, hd, hy, r⟩ := l
    rw [List.length_map, List.drop_length] at r
    have r : P (ys ++ []) := r
    rw [List.append_nil] at r
    exact q _ ys Gi H' (s.trans si) ⟨Dl, acc, rfl, s.back hD, gD, hl, hd⟩ r⟩
def LcX (K : PySem.W.Frag) (M : MS) (G1 H1 Gb : Hp) (Dl : Addr) {β : Type} (enc : β → PyData) (R : List β → Prop) (H' : Hp) : Prop :=
  ∃ Gi acc ys, Stp M G1 H1 Gi H' ∧ Ex Gb Gi ∧ Gi Dl = none ∧ H' Dl = some (.lst acc) ∧ DpAll K Gi acc (ys.map enc) ∧ R ys
/-- the turn of the inner source of two clauses -/
theorem lc2_turn {enc : β → PyData} {M : MS} {G1 H1 H' : Hp} {Dl : Addr} {tt : TT} {te : TE} {σ2 : St} {x : α} {xs : List α} {wc : α → W Bool} {we : α → W β} {P : List β → Prop}
    {Gi G3 H2 Gb : Hp} {acc : List V} {ys : List β} (hD : H1 Dl = none) (s : Stp M G1 H1 Gi H') (xb : Ex Gb Gi) (gD : Gi Dl = none) (hl : H' Dl = some (.lst acc)) (hd : DpAll T.K Gi acc (ys.map enc)) (r : cmpA (x :: xs) wc we ys P) (s3 : Stp M Gi H' G3 H2) (v3 : View T M G3 σ2 S)
    (ht : ∀ G H, Wd M G H → View T M G σ2 S → ∀ P : Bool → Prop, wc x P → ∀ Q : Bool → Hp → Prop, (∀ t G2 H2, Stp M G H G2 H2 → P t → Q t H2) → tt σ2 H Q)
    (he : ∀ G H, Wd M G H → View T M G σ2 S → ∀ P : β → Prop, we x P → ∀ Q : VK, (∀ v t G2 H2, Stp M G H G2 H2 → Dp T.K G2 v (enc t) → P t → Q v H2) → te σ2 H Q) :
    tt σ2 H2 fun b H3 => if b = true then te σ2 H3 fun y H4 => ∃ acc, H4 Dl = some (.lst acc) ∧ acc.length < sizeLine ∧ LcX T.K M G1 H1 Gb Dl enc (fun ys => cmpA xs wc we ys P) (upd H4 Dl (.lst (acc ++ [y]))) else LcX T.K M G1 H1 Gb Dl enc (fun ys => cmpA xs wc we ys P) H3 := by
  have nmD := s.nm hD
  have hl3 : H2 Dl = some (.lst acc) := s3.hh Dl _ nmD hl
  have gD3 : G3 Dl = none := s3.none (some_ne hl) gD
  refine ht G3 H2 s3.wd v3 _ r _ fun b G4 H4 s4 pb => ?_
  have hl4 : H4 Dl = some (.lst acc) := s4.hh Dl _ nmD hl3
  have gD4 : G4 Dl = none := s4.none (some_ne hl3) gD3
  cases b with
  | false => exact iteF ⟨G4, acc, ys, (s.trans s3).trans s4, xb.trans (s3.gg.trans s4.gg), gD4, hl4, (s3.gg.trans s4.gg).dps hd, pb⟩
  | true =>
    refine iteT (he G4 H4 s4.wd (v3.up s4.gg) _ pb _ fun y z G5 H5 s5 hz pz => ?_)
    have hl5 : H5 Dl = some (.lst acc) := s5.hh Dl _ nmD hl4
    have gD5 : G5 Dl = none := s5.none (some_ne hl4) gD4
    have st := ((s.trans s3).trans s4).trans s5
    refine ⟨acc, hl5, sz' (by rw [dps_len hd, List.length_map]; exact pz.1), G5, acc ++ [y], ys ++ [z], st.mut hD gD5, xb.trans ((s3.gg.trans s4.gg).trans s5.gg), gD5, upd_same, ?_, pz.2⟩
    rw [List.map_append]; exact dps_app (((s3.gg.trans s4.gg).trans s5.gg).dps hd) (.cons hz .nil)
theorem setAll_wipe {σ : St} {vs vs1 js : List Nat} {us : List V} (h1 : ∀ j ∈ vs1, j ∈ vs) : ∀ i, i ∈ vs1 → i ∉ js → (setAll (wipe σ vs) js us)[i]? = (wipe σ vs)[i]? := fun i _ h => setAll_out h
theorem wk_loop {M : MS} {K : PySem.W.Frag} {J : It} {G : Hp} {ds : List PyData} {Hs : Hp} {Qd : Hp → Prop} (Body : (Hp → Prop) → V → Hp → Prop) (wk : Wk M K J G ds) (Pv : Nat → Hp → Prop) (h0 : Pv 0 Hs) (hp : ∀ i H, Pv i H → ∃ G1, Ex G G1 ∧ Wd M G1 H)
    (hs : ∀ i d v H H', ds[i]? = some d → Pv i H → (∀ G1, Ex G G1 → Wd M G1 H → ∃ G2, Stp M G1 H G2 H' ∧ Dp K G2 v d) → Body (Pv (i + 1)) v H') (hd : ∀ H, Pv ds.length H → Qd H) :
    ∃ W : Nat → Nat → Hp → Prop, (∃ m, W 0 m Hs) ∧ ∀ i m H, W i m H → (J.stop i H ∧ Qd H) ∨ (J.go i H ∧ ∃ Nx : Hp → Prop, (∀ H', Nx H' → ∃ m', m' < m ∧ W (i + 1) m' H') ∧ ∀ x H', J.yld i H x H' → Body Nx x H') := by
  refine ⟨fun i m H => m = ds.length - i ∧ i ≤ ds.length ∧ Pv i H, ⟨ds.length, by simp, Nat.zero_le _, h0⟩, ?_⟩
  rintro i m H ⟨rfl, hi, p⟩
  obtain ⟨G1, x, w⟩ := hp i H p
  by_cases hlt : i < ds.length
  · refine .inr ⟨wk.go i G1 H hlt x w, Pv (i + 1), fun H' p' => ⟨ds.length - (i + 1), by omega, rfl, hlt, p'⟩, fun v H' y => ?_⟩
    refine hs i ds[i] v H H' (by simp [hlt]) p fun G1 x w => ?_
    obtain ⟨d, G2, e, s, h⟩ := wk.yld i G1 H v H' hlt x w y
    have : d = ds[i] := by simp [hlt] at e; exact e.symm
    exact ⟨G2, s, this ▸ h⟩
  · have e : i = ds.length := by omega
    subst e
    exact .inl ⟨wk.stop G1 H x w, hd H p⟩
/-- two clauses -/
theorem JC.gen2 {tg1 iter1 : Expr} {vs vs1 js js1 : List Nat} {enc0 : α → PyData} {enc1 : β → PyData} {up : α → List PyData} {up1 : β → List PyData} {enc : γ → PyData} {ws : W (List α)} {wc : α → W Bool} {w1 : α → W (List β)} {wc1 : α → β → W Bool} {we : α → β → W γ} {ifs ifs1 : List Expr} (hi : JI T F tg iter S enc0 ws) (hg : JG T (F.blk scope) tg enc0 js up)
    (hc : ∀ X : Cx, CxF T F X → ∃ tt : TT, (Blk X scope fun Y => PTs Y ifs tt) ∧ ∀ x (M : MS) (σ : St) (G H : Hp), Wd M G H → View T M G σ (setS (wipeS S vs) js (up x)) → ∀ P : Bool → Prop, wc x P → ∀ Q : Bool → Hp → Prop, (∀ t G2 H2, Stp M G H G2 H2 → P t → Q t H2) → tt σ H Q)
    (hi1 : ∀ x, JI T (F.blk scope) tg1 iter1 (setS (wipeS S vs) js (up x)) enc1 (w1 x)) (hg1 : JG T (F.blk scope) tg1 enc1 js1 up1)
    (hc1 : ∀ X : Cx, CxF T F X → ∃ tt : TT, (Blk X scope fun Y => PTs Y ifs1 tt) ∧ ∀ x y (M : MS) (σ : St) (G H : Hp), Wd M G H → View T M G σ (setS (wipeS (setS (wipeS S vs) js (up x)) vs1) js1 (up1 y)) → ∀ P : Bool → Prop, wc1 x y P → ∀ Q : Bool → Hp → Prop, (∀ t G2 H2, Stp M G H G2 H2 → P t → Q t H2) → tt σ H Q)
    (he : ∀ x y, JE T (F.blk scope) elt (setS (wipeS (setS (wipeS S vs) js (up x)) vs1) js1 (up1 y)) enc (we x y)) (ok : blkC F.N F.sc scope (ownOf F vs) = true) (hj : ∀ j ∈ js, j ∈ vs ∧ j < F.N.length) (hj1 : ∀ j ∈ js1, j ∈ vs1 ∧ j < F.N.length) (hv : ∀ j ∈ vs1, j ∈ vs) (fs1 : ∀ env x, foldedSetIterable iter1 env x = pure x) : JC T F (.ListComp elt [⟨tg, iter, ifs, 0⟩, ⟨tg1, iter1, ifs1, 0⟩] scope pos) S enc (do let xs ← ws; cmp2A xs wc w1 wc1 we []) := ⟨fun X C => by
  obtain ⟨bok, bcx⟩ := C.blk ok
  obtain ⟨tt, htt, ftt⟩ := hc X C
  obtain ⟨tt1, htt1, ftt1⟩ := hc1 X C
  have fs : ∀ x, foldedSetIterable iter X.env x = pure x := hi.fs _
  have hv' : ∀ j ∈ vs1, j ∈ (ownOf F vs).map (·.2) := fun j m => by rw [own_map]; exact hv j m
  refine ⟨_, pe_lc2 (g := bkG X scope tg) (tt := tt) (te := bkE X scope elt) (wi1 := bkI X scope tg1 iter1) (g1 := bkG X scope tg1) (tt1 := tt1) (vs1 := vs1) C.calm C.nd (piR tg iter) bok hv' (fun s H C cl fp => bk_pg s H C cl fp) htt (fun s H C cl fp => bk_pi s H C cl fp) (fun s H C cl fp => bk_pg s H C cl fp) htt1 (fun s H C cl fp => bk_pe s H C cl fp) fs fs1,
    fun i y yp spos a b c => ps_setLc2 (g := bkG X scope tg) (tt := tt) (te := bkE X scope elt) (wi1 := bkI X scope tg1 iter1) (g1 := bkG X scope tg1) (tt1 := tt1) (vs1 := vs1) C.calm C.nd a b c (piR tg iter) bok hv' (fun s H C cl fp => bk_pg s H C cl fp) htt (fun s H C cl fp => bk_pi s H C cl fp) (fun s H C cl fp => bk_pg s H C cl fp) htt1 (fun s H C cl fp => bk_pe s H C cl fp) fs fs1, fun M σ G H wd v hlen P hp Q q => ?_⟩
  refine hi.run X M σ G H C wd v _ hp _ fun J xs G2 H2 s wk pxs Dl hD => ?_
  rw [own_map]
  refine wk_loop (Body := fun Nx v H' => bkG X scope tg v (wipe σ vs) H' fun σ2 H2 => wipe σ2 vs = wipe σ vs ∧ tt σ2 H2 fun b H3 => if b = true then bkI X scope tg1 iter1 σ2 H3 fun J1 H4 => ∃ W1 : Nat → Nat → Hp → Prop, (∃ m, W1 0 m H4) ∧ ∀ j k H, W1 j k H →
      (J1.stop j H ∧ Nx H) ∨ (J1.go j H ∧ ∃ Nx1 : Hp → Prop, (∀ H', Nx1 H' → ∃ k', k' < k ∧ W1 (j + 1) k' H') ∧ ∀ x H', J1.yld j H x H' → bkG X scope tg1 x (wipe σ2 vs1) H' fun σ3 H5 => wipe σ3 vs1 = wipe σ2 vs1 ∧ tt1 σ3 H5 fun b H6 =>
        if b = true then bkE X scope elt σ3 H6 fun y H7 => ∃ acc, H7 Dl = some (.lst acc) ∧ acc.length < sizeLine ∧ Nx1 (upd H7 Dl (.lst (acc ++ [y]))) else Nx1 H6) else Nx H3) wk
    (fun i H' => LcW T.K M G2 H2 Dl enc (fun ys => cmp2A (xs.drop i) wc w1 wc1 we ys P) H') ⟨G2, [], [], .laidN s.wd hD, s.wd.gh.back hD, upd_same, .nil, pxs⟩ (fun i H' l => l.wd) (fun i d u H' H3 hd l hu => ?_) (fun H' l => ?_)
  · obtain ⟨x, hx, rfl⟩ := map_get hd
    rw [drop_get hx] at l
    intro s0 H0 Ca cl fp
    obtain ⟨Gi, acc, ys, si, gD, hl, hda, r⟩ := l
    obtain ⟨G3, s3, d3⟩ := hu Gi si.gg si.wd
    refine hg.run _ G3 H3 _ u x (bcx s0 H0 Ca cl fp) s3.wd.gh d3 _ fun us hus => ⟨wipe_set fun j m => (hj j m).1, ?_⟩
    have v3 : View T M G3 (setAll (wipe σ vs) js us) (setS (wipeS S vs) js (up x)) := View.sets ((v.up (s.gg.trans (si.gg.trans s3.gg))).wipe vs) hus fun j m => by rw [wipe_length]; exact hlen j (by rw [C.N]; exact (hj j m).2)
    generalize hσ2 : setAll (wipe σ vs) js us = σ2 at *
    have len2 : σ2.length = σ.length := by rw [← hσ2, setAll_len, wipe_length]
    have nmD := si.nm hD
    have hl3 : H3 Dl = some (.lst acc) := s3.hh Dl _ nmD hl
    have gD3 : G3 Dl = none := s3.none (some_ne hl) gD
    refine ftt x M _ G3 H3 s3.wd v3 _ r _ fun b G4 H4 s4 pb => ?_
    have hl4 : H4 Dl = some (.lst acc) := s4.hh Dl _ nmD hl3
    have gD4 : G4 Dl = none := s4.none (some_ne hl3) gD3
    cases b with
    | false => exact iteF ⟨G4, acc, ys, (si.trans s3).trans s4, gD4, hl4, (s3.gg.trans s4.gg).dps hda, pb⟩
    | true =>
      refine iteT fun s1 H01 Ca1 cl1 fp1 => (hi1 x).run _ M _ G4 H4 (bcx s1 H01 Ca1 cl1 fp1) s4.wd (v3.up s4.gg) _ pb _ fun J1 zs G5 H5 s5 wk1 pzs => ?_
      have st5 := ((si.trans s3).trans s4).trans s5
      have hl5 : H5 Dl = some (.lst acc) := s5.hh Dl _ nmD hl4
      have gD5 : G5 Dl = none := s5.none (some_ne hl4) gD4
      have v5 := v3.up (s4.gg.trans s5.gg)
      refine wk_loop (Body := fun Nx1 x H' => bkG X scope tg1 x (wipe σ2 vs1) H' fun σ3 H5 => wipe σ3 vs1 = wipe σ2 vs1 ∧ tt1 σ3 H5 fun b H6 =>
          if b = true then bkE X scope elt σ3 H6 fun y H7 => ∃ acc, H7 Dl = some (.lst acc) ∧ acc.length < sizeLine ∧ Nx1 (upd H7 Dl (.lst (acc ++ [y]))) else Nx1 H6) wk1
        (fun j H' => LcX T.K M G2 H2 G5 Dl enc (fun ys => cmpA (zs.drop j) (wc1 x) (we x) ys fun l => cmp2A (xs.drop (i + 1)) wc w1 wc1 we l P) H') ⟨G5, acc, ys, st5, Ex.refl _, gD5, hl5, (s3.gg.trans (s4.gg.trans s5.gg)).dps hda, pzs⟩ (fun j H' ⟨Gi, _, _, s', x', _⟩ => ⟨Gi, x', s'.wd⟩) (fun j d u1 H6 H7 hd1 l1 hu1 => ?_) (fun H' ⟨Gi, acc, ys, s', _, a1, a2, a3, a4⟩ => ?_)
      · obtain ⟨y, hy, rfl⟩ := map_get hd1
        rw [drop_get hy] at l1
        intro s2 H02 Ca2 cl2 fp2
        obtain ⟨Gj, acc1, ys1, sj, xj, gDj, hlj, hdj, rj⟩ := l1
        obtain ⟨G8, s8, d8⟩ := hu1 Gj xj sj.wd
        refine hg1.run _ G8 H7 _ u1 y (bcx s2 H02 Ca2 cl2 fp2) s8.wd.gh d8 _ fun us1 hus1 => ⟨wipe_set fun j m => (hj1 j m).1, ?_⟩
        have v8 : View T M G8 (setAll (wipe σ2 vs1) js1 us1) (setS (wipeS (setS (wipeS S vs) js (up x)) vs1) js1 (up1 y)) := View.sets ((v5.up (xj.trans s8.gg)).wipe vs1) hus1 fun j m => by rw [wipe_length, len2]; exact hlen j (by rw [C.N]; exact (hj1 j m).2)
        exact lc2_turn (wc := wc1 x) (we := we x) hD sj xj gDj hlj hdj rj s8 v8 (fun G H w v P hp Q q => ftt1 x y M _ G H w v P hp Q q) (fun G H w v P hp Q q => fun s0 H0 Ca cl fp => (he x y).run _ M _ G H (bcx s0 H0 Ca cl fp) w v P hp Q q)
      · rw [List.length_map, List.drop_length] at a4
        exact ⟨Gi, acc, ys, s', a1, a2, a3, a4⟩
  · obtain ⟨Gi, acc, ys, si, gD, hl, hd, r⟩ := l
    rw [List.length_map, List.drop_length] at r
    have r : P ys := r
    exact q _ ys Gi H' (s.trans si) ⟨Dl, acc, rfl, s.back hD, gD, hl, hd⟩ r⟩
theorem JC.one {vs js : List Nat} {enc0 : α → PyData} {up : α → List PyData} {enc : β → PyData} {ws : W (List α)} {wc : α → W Bool} {we : α → W β} (hi : JI T F tg iter S enc0 ws) (hg : JG T (F.blk scope) tg enc0 js up)
    (hc : ∀ x, JT T (F.blk scope) c (setS (wipeS S vs) js (up x)) (wc x))
    (he : ∀ x, JE T (F.blk scope) elt (setS (wipeS S vs) js (up x)) enc (we x)) (ok : blkC F.N F.sc scope (ownOf F vs) = true := by kernel_rfl) (hj : ∀ j ∈ js, j ∈ vs ∧ j < F.N.length := by decide) : JC T F (.ListComp elt [⟨tg, iter, [c], 0⟩] scope pos) S enc (do let xs ← ws; gd (xs.length < 100000); cmpW xs wc we) :=
  JC.gen hi hg (fun X C => ⟨bkT X scope c, fun s H C cl fp => pts_one (bk_pt s H C cl fp), fun x M σ G H w v P hp Q q => fun s0 H0 Ca cl fp => (hc x).run _ M σ G H ((C.blk ok).2 s0 H0 Ca cl fp) w v P hp Q q⟩) he ok hj
/-- two clauses, the tests as they stand -/
theorem JC.two01 {tg1 iter1 : Expr} {vs vs1 js js1 : List Nat} {enc0 : α → PyData} {enc1 : β → PyData} {up : α → List PyData} {up1 : β → List PyData} {enc : γ → PyData} {ws : W (List α)} {w1 : α → W (List β)} {wc1 : α → β → W Bool} {we : α → β → W γ} (hi : JI T F tg iter S enc0 ws) (hg : JG T (F.blk scope) tg enc0 js up)
    (hi1 : ∀ x, JI T (F.blk scope) tg1 iter1 (setS (wipeS S vs) js (up x)) enc1 (w1 x)) (hg1 : JG T (F.blk scope) tg1 enc1 js1 up1)
    (hc1 : ∀ x y, JT T (F.blk scope) c (setS (wipeS (setS (wipeS S vs) js (up x)) vs1) js1 (up1 y)) (wc1 x y))
    (he : ∀ x y, JE T (F.blk scope) elt (setS (wipeS (setS (wipeS S vs) js (up x)) vs1) js1 (up1 y)) enc (we x y)) (ok : blkC F.N F.sc scope (ownOf F vs) = true := by kernel_rfl) (hj : ∀ j ∈ js, j ∈ vs ∧ j < F.N.length := by decide) (hj1 : ∀ j ∈ js1, j ∈ vs1 ∧ j < F.N.length := by decide) (hv : ∀ j ∈ vs1, j ∈ vs := by decide) (fs1 : ∀ env x, foldedSetIterable iter1 env x = pure x := by intro _ _; rfl) : JC T F (.ListComp elt [⟨tg, iter, [], 0⟩, ⟨tg1, iter1, [c], 0⟩] scope pos) S enc (do let xs ← ws; cmp2A xs (fun _ => pure true) w1 wc1 we []) :=
  JC.gen2 hi hg (fun X C => ⟨tYes, fun s H C cl fp => pts_nil, fun x M σ G H w v P hp Q q => q true G H (.refl w) hp⟩) hi1 hg1 (fun X C => ⟨bkT X scope c, fun s H C cl fp => pts_one (bk_pt s H C cl fp), fun x y M σ G H w v P hp Q q => fun s0 H0 Ca cl fp => (hc1 x y).run _ M σ G H ((C.blk ok).2 s0 H0 Ca cl fp) w v P hp Q q⟩) he ok hj hj1 hv fs1
theorem JC.two00 {tg1 iter1 : Expr} {vs vs1 js js1 : List Nat} {enc0 : α → PyData} {enc1 : β → PyData} {up : α → List PyData} {up1 : β → List PyData} {enc : γ → PyData} {ws : W (List α)} {w1 : α → W (List β)} {we : α → β → W γ} (hi : JI T F tg iter S enc0 ws) (hg : JG T (F.blk scope) tg enc0 js up)
    (hi1 : ∀ x, JI T (F.blk scope) tg1 iter1 (setS (wipeS S vs) js (up x)) enc1 (w1 x)) (hg1 : JG T (F.blk scope) tg1 enc1 js1 up1)
    (he : ∀ x y, JE T (F.blk scope) elt (setS (wipeS (setS (wipeS S vs) js (up x)) vs1) js1 (up1 y)) enc (we x y)) (ok : blkC F.N F.sc scope (ownOf F vs) = true := by kernel_rfl) (hj : ∀ j ∈ js, j ∈ vs ∧ j < F.N.length := by decide) (hj1 : ∀ j ∈ js1, j ∈ vs1 ∧ j < F.N.length := by decide) (hv : ∀ j ∈ vs1, j ∈ vs := by decide) (fs1 : ∀ env x, foldedSetIterable iter1 env x = pure x := by intro _ _; rfl) : JC T F (.ListComp elt [⟨tg, iter, [], 0⟩, ⟨tg1, iter1, [], 0⟩] scope pos) S enc (do let xs ← ws; cmp2A xs (fun _ => pure true) w1 (fun _ _ => pure true) we []) :=
  JC.gen2 hi hg (fun X C => ⟨tYes, fun s H C cl fp => pts_nil, fun x M σ G H w v P hp Q q => q true G H (.refl w) hp⟩) hi1 hg1 (fun X C => ⟨tYes, fun s H C cl fp => pts_nil, fun x y M σ G H w v P hp Q q => q true G H (.refl w) hp⟩) he ok hj hj1 hv fs1
theorem JC.two10 {tg1 iter1 : Expr} {vs vs1 js js1 : List Nat} {enc0 : α → PyData} {enc1 : β → PyData} {up : α → List PyData} {up1 : β → List PyData} {enc : γ → PyData} {ws : W (List α)} {wc : α → W Bool} {w1 : α → W (List β)} {we : α → β → W γ} (hi : JI T F tg iter S enc0 ws) (hg : JG T (F.blk scope) tg enc0 js up)
    (hc : ∀ x, JT T (F.blk scope) c (setS (wipeS S vs) js (up x)) (wc x))
    (hi1 : ∀ x, JI T (F.blk scope) tg1 iter1 (setS (wipeS S vs) js (up x)) enc1 (w1 x)) (hg1 : JG T (F.blk scope) tg1 enc1 js1 up1)
    (he : ∀ x y, JE T (F.blk scope) elt (setS (wipeS (setS (wipeS S vs) js (up x)) vs1) js1 (up1 y)) enc (we x y)) (ok : blkC F.N F.sc scope (ownOf F vs) = true := by kernel_rfl) (hj : ∀ j ∈ js, j ∈ vs ∧ j < F.N.length := by decide) (hj1 : ∀ j ∈ js1, j ∈ vs1 ∧ j < F.N.length := by decide) (hv : ∀ j ∈ vs1, j ∈ vs := by decide) (fs1 : ∀ env x, foldedSetIterable iter1 env x = pure x := by intro _ _; rfl) : JC T F (.ListComp elt [⟨tg, iter, [c], 0⟩, ⟨tg1, iter1, [], 0⟩] scope pos) S enc (do let xs ← ws; cmp2A xs wc w1 (fun _ _ => pure true) we []) :=
  JC.gen2 hi hg (fun X C => ⟨bkT X scope c, fun s H C cl fp => pts_one (bk_pt s H C cl fp), fun x M σ G H w v P hp Q q => fun s0 H0 Ca cl fp => (hc x).run _ M σ G H ((C.blk ok).2 s0 H0 Ca cl fp) w v P hp Q q⟩) hi1 hg1 (fun X C => ⟨tYes, fun s H C cl fp => pts_nil, fun x y M σ G H w v P hp Q q => q true G H (.refl w) hp⟩) he ok hj hj1 hv fs1
theorem JC.all {vs js : List Nat} {enc0 : α → PyData} {up : α → List PyData} {enc : β → PyData} {ws : W (List α)} {we : α → W β} (hi : JI T F tg iter S enc0 ws) (hg : JG T (F.blk scope) tg enc0 js up)
    (he : ∀ x, JE T (F.blk scope) elt (setS (wipeS S vs) js (up x)) enc (we x)) (ok : blkC F.N F.sc scope (ownOf F vs) = true := by kernel_rfl) (hj : ∀ j ∈ js, j ∈ vs ∧ j < F.N.length := by decide) : JC T F (.ListComp elt [⟨tg, iter, [], 0⟩] scope pos) S enc (do let xs ← ws; gd (xs.length < 100000); cmpW xs (fun _ => pure true) we) :=
  JC.gen hi hg (fun X C => ⟨tYes, fun s H C cl fp => pts_nil, fun x M σ G H w v P hp Q q => q true G H (.refl w) hp⟩) he ok hj
end
end DW
namespace DW
open PySem L2 PL PLS
/-! the state of a def's body -/
def SlR (T : Tx) (M : MS) (H0 G H : Hp) (o : Option (Option V)) : Sl → Prop
  | .no => True
  | .d x => ∃ v, o = some (some v) ∧ Dp T.K G v x
  | .l xs => ∃ p vs, o = some (some (.ref p)) ∧ H0 p = none ∧ G p = none ∧ H p = some (.lst vs) ∧ DpAll T.K G vs xs
  | .p => ∃ p c, MIn (MP p c) M ∧ o = some (some (.ref p))
  | .q φ => ∃ v, o = some (some v) ∧ φ.p H0 G v
structure Rel (T : Tx) (M : MS) (Gs H0 : Hp) (S : List Sl) (G : Hp) (σ : St) (H : Hp) : Prop where
  stp : Stp M Gs H0 G H
  sl : ∀ (i : Nat) (s : Sl), S[i]? = some s → SlR T M H0 G H σ[i]? s
  ne : ∀ (i j : Nat) xs ys, i ≠ j → S[i]? = some (.l xs) → S[j]? = some (.l ys) → σ[i]? ≠ σ[j]?
  mt : MIn T.mt M
def hideS (S : List Sl) : List Sl := S.map fun | .l _ => .no | s => s
theorem hide_get {S : List Sl} {i : Nat} {s : Sl} (h : (hideS S)[i]? = some s) : s = .no ∨ (S[i]? = some s ∧ ∀ xs, s ≠ .l xs) := by
  unfold hideS at h
  rw [List.getElem?_map] at h
  cases q : S[i]? with
  | none => rw [q] at h; cases h
  | some t =>
    rw [q] at h
    cases t with
    | no => cases h; exact .inl rfl
    | d x => cases h; exact .inr ⟨rfl, fun _ z => by cases z⟩
    | l xs => cases h; exact .inl rfl
    | p => cases h; exact .inr ⟨rfl, fun _ z => by cases z⟩
    | q φ => cases h; exact .inr ⟨rfl, fun _ z => by cases z⟩
section
variable {T : Tx} {M : MS} {Gs H0 G H G1 H1 : Hp} {S : List Sl} {σ : St}
theorem Rel.wd (r : Rel T M Gs H0 S G σ H) : Wd M G H := r.stp.wd
theorem Rel.view (r : Rel T M Gs H0 S G σ H) : View T M G σ (hideS S) := ⟨r.mt, fun i s h => by
  rcases hide_get h with rfl | ⟨h, n⟩
  · trivial
  · have := r.sl i s h
    cases s with
    | no => trivial
    | d x => exact this
    | l xs => exact absurd rfl (n xs)
    | p => exact this
    | q φ => obtain ⟨v, a, b⟩ := this; exact ⟨v, H0, a, b⟩⟩
/-- a step that leaves the slots -/
theorem Rel.step (r : Rel T M Gs H0 S G σ H) (s : Stp M G H G1 H1) : Rel T M Gs H0 S G1 σ H1 := by
  refine ⟨r.stp.trans s, fun i t h => ?_, r.ne, r.mt⟩
  have := r.sl i t h
  cases t with
  | no => trivial
  | d x => obtain ⟨v, a, b⟩ := this; exact ⟨v, a, s.gg.dp b⟩
  | l xs =>
    obtain ⟨p, vs, a, b, c, d, e⟩ := this
    exact ⟨p, vs, a, b, s.none (some_ne d) c, s.hh p _ (r.stp.nm b) d, s.gg.dps e⟩
  | p => exact this
  | q φ => obtain ⟨v, a, b⟩ := this; exact ⟨v, a, φ.up s.gg b⟩
/-- a slot stored: known data -/
theorem Rel.setD (r : Rel T M Gs H0 S G σ H) {i : Nat} {v : V} {d : PyData} (hd : Dp T.K G v d) (hi : i < σ.length) : Rel T M Gs H0 (S.set i (.d d)) G (σ.set i (some v)) H := by
  refine ⟨r.stp, fun j t h => ?_, fun j k xs ys n h1 h2 => ?_, r.mt⟩
  · by_cases e : i = j
    · subst e
      rw [List.getElem?_set, if_pos rfl] at h
      split at h
      · cases h; exact ⟨v, by rw [List.getElem?_set_self hi], hd⟩
      · cases h
    · rw [List.getElem?_set_ne e] at h ⊢; exact r.sl j t h
  · have f : ∀ {j : Nat} {xs : List PyData}, (S.set i (.d d))[j]? = some (.l xs) → i ≠ j ∧ S[j]? = some (.l xs) := fun {j xs} h => by
      by_cases e : i = j
      · subst e
        rw [List.getElem?_set, if_pos rfl] at h
        split at h <;> cases h
      · rw [List.getElem?_set_ne e] at h; exact ⟨e, h⟩
    obtain ⟨e1, h1⟩ := f h1
    obtain ⟨e2, h2⟩ := f h2
    rw [List.getElem?_set_ne e1, List.getElem?_set_ne e2]
    exact r.ne j k xs ys n h1 h2
theorem Rel.sets : ∀ {js : List Nat} {S : List Sl} {σ : St} {vs : List V} {ds : List PyData}, Rel T M Gs H0 S G σ H → DpAll T.K G vs ds → (∀ j ∈ js, j < σ.length) → Rel T M Gs H0 (setS S js ds) G (setAll σ js vs) H
  | [], _, _, _, _, r, hd, _ => by cases hd <;> exact r
  | j :: js, _, _, _, _, r, .nil, _ => r
  | j :: js, S, σ, _, _, r, .cons (v := v) (d := d) (vs := vs) (ds := ds) h1 h2, hl => by
    show Rel T M Gs H0 (setS (S.set j (.d d)) js ds) G (setAll (σ.set j (some v)) js vs) H
    exact Rel.sets (r.setD h1 (hl j List.mem_cons_self)) h2 fun i m => by rw [List.length_set]; exact hl i (List.mem_cons_of_mem _ m)
/-- a slot stored: a new list -/
theorem Rel.setL (r : Rel T M Gs H0 S G σ H) {i : Nat} {p : Addr} {vs : List V} {xs : List PyData} (s : Stp M G H G1 H1) (hp : H p = none) (gp : G1 p = none) (hl : H1 p = some (.lst vs)) (hd : DpAll T.K G1 vs xs) (hi : i < σ.length) : Rel T M Gs H0 (S.set i (.l xs)) G1 (σ.set i (some (.ref p))) H1 := by
  have r1 := r.step s
  have ne : ∀ {j : Nat} {ys : List PyData}, S[j]? = some (.l ys) → σ[j]? ≠ some (some (.ref p)) := fun {j ys} h e => by
    obtain ⟨q, us, a, _, _, d, _⟩ := r.sl j _ h
    rw [a] at e
    cases e
    rw [hp] at d; cases d
  refine ⟨r1.stp, fun j t h => ?_, fun j k xs ys n h1 h2 => ?_, r.mt⟩
  · by_cases e : i = j
    · subst e
      rw [List.getElem?_set, if_pos rfl] at h
      split at h
      · cases h; exact ⟨p, vs, by rw [List.getElem?_set_self hi], r.stp.back hp, gp, hl, hd⟩
      · cases h
    · rw [List.getElem?_set_ne e] at h ⊢; exact r1.sl j t h
  · by_cases e1 : i = j
    · subst e1
      have h2 : S[k]? = some (.l ys) := by rw [List.getElem?_set_ne n] at h2; exact h2
      rw [List.getElem?_set_self hi, List.getElem?_set_ne n]
      exact fun z => ne h2 z.symm
    · by_cases e2 : i = k
      · subst e2
        have h1 : S[j]? = some (.l xs) := by rw [List.getElem?_set_ne e1] at h1; exact h1
        rw [List.getElem?_set_self hi, List.getElem?_set_ne e1]
        exact fun z => ne h1 z
      · rw [List.getElem?_set_ne e1] at h1 ⊢
        rw [List.getElem?_set_ne e2] at h2 ⊢
        exact r.ne j k xs ys n h1 h2
/-- a list that grows, changed -/
theorem Rel.mut (r : Rel T M Gs H0 S G σ H) {i : Nat} {p : Addr} {vs : List V} {xs0 xs : List PyData} (hs : S[i]? = some (.l xs0)) (hσ : σ[i]? = some (some (.ref p))) (hd : DpAll T.K G vs xs) : Rel T M Gs H0 (S.set i (.l xs)) G σ (upd H p (.lst vs)) := by
  obtain ⟨q, us, a, b, c, d, e⟩ := r.sl i _ hs
  rw [a] at hσ; cases hσ
  refine ⟨r.stp.mut b c, fun j t h => ?_, fun j k xs1 ys n h1 h2 => ?_, r.mt⟩
  · by_cases e : i = j
    · subst e
      rw [List.getElem?_set, if_pos rfl] at h
      split at h
      · cases h; exact ⟨p, vs, a, b, c, upd_same, hd⟩
      · cases h
    · rw [List.getElem?_set_ne e] at h
      have := r.sl j t h
      cases t with
      | no => trivial
      | d x => exact this
      | l ys =>
        obtain ⟨q, us', a', b', c', d', e'⟩ := this
        refine ⟨q, us', a', b', c', ?_, e'⟩
        rw [upd_ne]; exact d'
        intro z; subst z
        exact r.ne i j _ _ e hs h (by rw [a, a'])
      | p => exact this
      | q φ => exact this
  · have f : ∀ {j : Nat} {xs' : List PyData}, (S.set i (.l xs))[j]? = some (.l xs') → ∃ ys, S[j]? = some (.l ys) := fun {j xs'} h => by
      by_cases e : i = j
      · subst e; exact ⟨_, hs⟩
      · rw [List.getElem?_set_ne e] at h; exact ⟨_, h⟩
    obtain ⟨_, h1⟩ := f h1
    obtain ⟨_, h2⟩ := f h2
    exact r.ne j k _ _ n h1 h2
/-- a list that grew is known from now on -/
theorem Rel.frz (r : Rel T M Gs H0 S G σ H) {i : Nat} {xs : List PyData} (hs : S[i]? = some (.l xs)) : ∃ G1, Rel T M Gs H0 (S.set i (.d (.list xs))) G1 σ H ∧ Ex G G1 := by
  obtain ⟨p, vs, a, b, c, d, e⟩ := r.sl i _ hs
  have hi : i < σ.length := (List.getElem?_eq_some_iff.mp a).1
  have ex : Ex G (upd G p (.lst vs)) := Ex.new c
  refine ⟨upd G p (.lst vs), ⟨r.stp.know b d, fun j t h => ?_, fun j k xs' ys n h1 h2 => ?_, r.mt⟩, ex⟩
  · by_cases z : i = j
    · subst z
      rw [List.getElem?_set, if_pos rfl] at h
      split at h
      · cases h; exact ⟨_, a, .lst (.inl (.inl upd_same)) (ex.dps e)⟩
      · cases h
    · rw [List.getElem?_set_ne z] at h
      have := r.sl j t h
      cases t with
      | no => trivial
      | d x => obtain ⟨v, a, b⟩ := this; exact ⟨v, a, ex.dp b⟩
      | l ys =>
        obtain ⟨q, us', a', b', c', d', e'⟩ := this
        have : q ≠ p := fun y => by subst y; exact r.ne i j _ _ z hs h (by rw [a, a'])
        exact ⟨q, us', a', b', by rw [upd_ne this]; exact c', d', ex.dps e'⟩
      | p => exact this
      | q φ => obtain ⟨v, a, b⟩ := this; exact ⟨v, a, φ.up ex b⟩
  · have f : ∀ {j : Nat} {xs' : List PyData}, (S.set i (.d (.list xs)))[j]? = some (.l xs') → S[j]? = some (.l xs') := fun {j xs'} h => by
      by_cases e : i = j
      · subst e
        rw [List.getElem?_set, if_pos rfl] at h
        split at h <;> cases h
      · rw [List.getElem?_set_ne e] at h; exact h
    exact r.ne j k _ _ n (f h1) (f h2)
/-! all that grows, known for the while -/
def Own (S : List Sl) (σ : St) (a : Addr) : Prop := ∃ (i : Nat) (xs : List PyData), S[i]? = some (.l xs) ∧ σ[i]? = some (some (.ref a))
open Classical in
noncomputable def fz (S : List Sl) (σ : St) (G H : Hp) : Hp := fun a => if Own S σ a then H a else G a
theorem Rel.own (r : Rel T M Gs H0 S G σ H) {a : Addr} (h : Own S σ a) : H0 a = none ∧ G a = none ∧ ∃ vs, H a = some (.lst vs) := by
  obtain ⟨i, xs, h1, h2⟩ := h
  obtain ⟨p, vs, a', b, c, d, e⟩ := r.sl i _ h1
  rw [a'] at h2; cases h2
  exact ⟨b, c, vs, d⟩
theorem Rel.fzEx (r : Rel T M Gs H0 S G σ H) : Ex G (fz S σ G H) := fun a o e => by
  unfold fz
  by_cases h : Own S σ a
  · rw [(r.own h).2.1] at e; cases e
  · rw [if_neg h]; exact e
theorem Rel.fzWd (r : Rel T M Gs H0 S G σ H) : Wd M (fz S σ G H) H := by
  refine ⟨fun a o e => ?_, fun a m => ?_, r.wd.st⟩
  · unfold fz at e
    by_cases h : Own S σ a
    · rw [if_pos h] at e; exact e
    · rw [if_neg h] at e; exact r.wd.gh a o e
  · unfold fz
    by_cases h : Own S σ a
    · exact absurd m (r.stp.nm (r.own h).1)
    · rw [if_neg h]; exact r.wd.off a m
theorem Rel.fzView (r : Rel T M Gs H0 S G σ H) : View T M (fz S σ G H) σ S := ⟨r.mt, fun i s h => by
  have := r.sl i s h
  cases s with
  | no => trivial
  | d x => obtain ⟨v, a, b⟩ := this; exact ⟨v, a, r.fzEx.dp b⟩
  | l xs =>
    obtain ⟨p, vs, a, b, c, d, e⟩ := this
    refine ⟨_, a, .lst (.inl (.inl ?_)) (r.fzEx.dps e)⟩
    show fz S σ G H p = _
    unfold fz
    rw [if_pos ⟨i, xs, h, a⟩]; exact d
  | p => exact this
  | q φ => obtain ⟨v, a, b⟩ := this; exact ⟨v, H0, a, φ.up r.fzEx b⟩⟩
/-- behind: forgotten again -/
theorem Rel.unfz (r : Rel T M Gs H0 S G σ H) {G2 H2 : Hp} (s : Stp M (fz S σ G H) H G2 H2) : ∃ G3, Rel T M Gs H0 S G3 σ H2 ∧ Stp M G H G3 H2 ∧ Ex G3 G2 ∧ ∀ a, G3 a = none → G2 a = none ∨ (Own S σ a ∧ ∃ vs, G2 a = some (.lst vs)) := by
  classical
  let G3 : Hp := fun a => if Own S σ a then none else G2 a
  have e32 : Ex G3 G2 := fun a o e => by
    show G2 a = some o
    have e : (if Own S σ a then none else G2 a) = some o := e
    by_cases h : Own S σ a
    · rw [if_pos h] at e; cases e
    · rw [if_neg h] at e; exact e
  have fzn : ∀ a, ¬ Own S σ a → fz S σ G H a = G a := fun a h => by unfold fz; rw [if_neg h]
  have st : Stp M G H G3 H2 := by
    refine ⟨r.wd, fun a o e => ?_, ⟨e32.trans s.wd.gh, fun a m => ?_, s.wd.st⟩, s.hh, fun a h1 h2 => ?_⟩
    · have h : ¬ Own S σ a := fun h => by rw [(r.own h).2.1] at e; cases e
      show (if Own S σ a then none else G2 a) = some o
      rw [if_neg h]; exact s.gg a o (r.fzEx a o e)
    · cases q : G3 a with
      | none => rfl
      | some o => have := e32 a o q; rw [s.wd.off a m] at this; cases this
    · have h : ¬ Own S σ a := fun h => h2 (if_pos h)
      have z : G2 a ≠ none := fun z => h2 (by show (if Own S σ a then none else G2 a) = none; rw [if_neg h]; exact z)
      have := s.fr a h1 z
      rw [fzn a h] at this; exact this
  refine ⟨G3, r.step st, st, e32, fun a h => ?_⟩
  by_cases o : Own S σ a
  · right
    refine ⟨o, ?_⟩
    obtain ⟨h0, hg, vs, hv⟩ := r.own o
    refine ⟨vs, s.gg a _ ?_⟩
    unfold fz; rw [if_pos o]; exact hv
  · left
    have h : (if Own S σ a then none else G2 a) = none := h
    rw [if_neg o] at h; exact h
/-- data without lists do not hang on what is forgotten -/
theorem flat_less {K : PySem.W.Frag} {G3 G2 : Hp} (e : ∀ a, G3 a = none → G2 a = none ∨ ∃ vs, G2 a = some (HO.lst vs)) (x : Ex G3 G2) : (∀ (d : PyData) (v : V), flatD d = true → Dp K G2 v d → Dp K G3 v d) := by
  have key : ∀ a xs, SqT K G2 a xs → SqT K G3 a xs := fun a xs h => by
    have f : ∀ o, G2 a = some o → (∀ vs, o ≠ HO.lst vs) → G3 a = some o := fun o h1 h2 => by
      cases q : G3 a with
      | some u => have := x a u q; rw [h1] at this; cases this; rfl
      | none =>
        rcases e a q with z | ⟨vs, z⟩
        · rw [h1] at z; cases z
        · rw [h1] at z; cases z; exact absurd rfl (h2 vs)
    rcases h with (h | ⟨o, h⟩) | h
    · exact .inl (.inl (f _ h fun _ z => by cases z))
    · exact .inl (.inr ⟨o, f _ h fun _ z => by cases z⟩)
    · exact .inr h
  have go : ∀ (n : Nat), (∀ (d : PyData) (v : V), sizeOf d < n → flatD d = true → Dp K G2 v d → Dp K G3 v d) ∧ (∀ (ds : List PyData) (vs : List V), sizeOf ds < n → flatD.flatAll ds = true → DpAll K G2 vs ds → DpAll K G3 vs ds) := by
    intro n
    induction n with
    | zero => exact ⟨fun _ _ h => absurd h (Nat.not_lt_zero _), fun _ _ h => absurd h (Nat.not_lt_zero _)⟩
    | succ n ih =>
      refine ⟨fun d v hn hf h => ?_, fun ds vs hn hf h => ?_⟩
      · cases h with
        | non => exact .non
        | bl b => exact .bl b
        | int i => exact .int i
        | str s => exact .str s
        | lst _ _ => simp [flatD] at hf
        | tup h1 h2 =>
          refine .tup (key _ _ h1) (ih.2 _ _ ?_ (by simpa [flatD] using hf) h2)
          simp at hn; omega
      · cases h with
        | nil => exact .nil
        | cons h1 h2 =>
          simp only [flatD.flatAll, Bool.and_eq_true] at hf
          simp at hn
          exact .cons (ih.1 _ _ (by omega) hf.1 h1) (ih.2 _ _ (by omega) hf.2 h2)
  exact fun d v hf h => (go (sizeOf d + 1)).1 d v (Nat.lt_succ_self _) hf h
end
end DW
namespace DW
open PySem L2 PL PLS
/-! how a block ends -/
inductive Fl (ρ β σ : Type) where
  | nx (s : σ)
  | rt (r : ρ)
  | bk (b : β)
  | ct (b : β)
def seqW {ρ β σ τ : Type} (w : W (Fl ρ β σ)) (k : σ → W (Fl ρ β τ)) : W (Fl ρ β τ) := w >>= fun
  | .nx s => k s
  | .rt r => pure (.rt r)
  | .bk b => pure (.bk b)
  | .ct b => pure (.ct b)
/-- a loop over items -/
def forW {α ρ β σ : Type} (xs : List α) (s : σ) (f : α → σ → W (Fl ρ σ σ)) : W (Fl ρ β σ) := match xs with
  | [] => pure (.nx s)
  | x :: xs => f x s >>= fun
    | .nx s' => forW xs s' f
    | .ct s' => forW xs s' f
    | .bk s' => pure (.nx s')
    | .rt r => pure (.rt r)
def whileW {ρ β σ : Type} (s : σ) (c : σ → W Bool) (f : σ → W (Fl ρ σ σ)) : W (Fl ρ β σ) := fun Q => ∃ I : Nat → σ → Prop, (∃ m, I m s) ∧ ∀ m s, I m s → c s fun b => if b = true then f s (fun
    | .nx s' => ∃ m', m' < m ∧ I m' s'
    | .ct s' => ∃ m', m' < m ∧ I m' s'
    | .bk s' => Q (.nx s')
    | .rt r => Q (.rt r)) else Q (.nx s)
/-- what a body gives back -/
def runW {ρ β σ : Type} (w : W (Fl ρ β σ)) : W ρ := fun Q => w fun
  | .rt r => Q r
  | _ => False
section
variable {ρ β σ τ υ α : Type} {Q : Fl ρ β τ → Prop}
@[simp] theorem seqW_nx (s : σ) (k : σ → W (Fl ρ β τ)) : seqW (pure (.nx s)) k = k s := rfl
@[simp] theorem seqW_rt (r : ρ) (k : σ → W (Fl ρ β τ)) : seqW (pure (.rt r)) k = pure (.rt r) := rfl
@[simp] theorem seqW_bk (b : β) (k : σ → W (Fl ρ β τ)) : seqW (pure (.bk b)) k = pure (.bk b) := rfl
@[simp] theorem seqW_ct (b : β) (k : σ → W (Fl ρ β τ)) : seqW (pure (.ct b)) k = pure (.ct b) := rfl
@[simp] theorem seqW_bind (w : W α) (f : α → W (Fl ρ β σ)) (k : σ → W (Fl ρ β τ)) : seqW (w >>= f) k = w >>= fun x => seqW (f x) k := rfl
@[simp] theorem seqW_ite (c : Prop) [Decidable c] (a b : W (Fl ρ β σ)) (k : σ → W (Fl ρ β τ)) : seqW (if c then a else b) k = if c then seqW a k else seqW b k := by split <;> rfl
@[simp] theorem runW_rt (r : ρ) (Q : ρ → Prop) : runW (pure (.rt r) : W (Fl ρ β σ)) Q = Q r := rfl
@[simp] theorem runW_bind (w : W α) (f : α → W (Fl ρ β σ)) : runW (w >>= f) = w >>= fun x => runW (f x) := rfl
@[simp] theorem runW_ite (c : Prop) [Decidable c] (a b : W (Fl ρ β σ)) : runW (if c then a else b) = if c then runW a else runW b := by split <;> rfl
end
/-- knowing less of the slots -/
inductive Sub : List Sl → List Sl → Prop
  | nil : Sub [] []
  | keep {s : Sl} {S S' : List Sl} (h : Sub S S') : Sub (s :: S) (s :: S')
  | drop {s : Sl} {S S' : List Sl} (h : Sub S S') : Sub (s :: S) (.no :: S')
theorem Sub.get {S S' : List Sl} (h : Sub S S') : ∀ {i : Nat} {s : Sl}, S'[i]? = some s → s = .no ∨ S[i]? = some s := by
  induction h with
  | nil => intro i s h; simp at h
  | keep _ ih =>
    intro i s h
    cases i with
    | zero => simp at h ⊢; exact .inr h
    | succ i => simpa using ih (by simpa using h)
  | drop _ ih =>
    intro i s h
    cases i with
    | zero => simp at h; exact .inl h.symm
    | succ i => simpa using ih (by simpa using h)
theorem Rel.sub {T : Tx} {M : MS} {Gs H0 G H : Hp} {S S' : List Sl} {σ : St} (r : Rel T M Gs H0 S G σ H) (h : Sub S S') : Rel T M Gs H0 S' G σ H := by
  refine ⟨r.stp, fun i s hs => ?_, fun i j xs ys n h1 h2 => ?_, r.mt⟩
  · rcases h.get hs with rfl | hs
    · trivial
    · exact r.sl i s hs
  · rcases h.get h1 with z | h1
    · cases z
    · rcases h.get h2 with z | h2
      · cases z
      · exact r.ne i j xs ys n h1 h2
section
variable (T : Tx) (F : Fr)
/-- what is wanted behind a block -/
structure DOk (M : MS) (Gs H0 G : Hp) {ρ β σ : Type} (er : ρ → XD) (sb : β → List Sl) (sn : σ → List Sl) (P : Fl ρ β σ → Prop) (D : Ends) : Prop where
  nx : ∀ s σ' G' H', P (.nx s) → Rel T M Gs H0 (sn s) G' σ' H' → Ex G G' → D.nx σ' H'
  rt : ∀ r v G' H', P (.rt r) → Stp M Gs H0 G' H' → Rv T M H0 G' H' v (er r) → D.rt v H'
  bk : ∀ b σ' G' H', P (.bk b) → Rel T M Gs H0 (sb b) G' σ' H' → Ex G G' → D.bk σ' H'
  ct : ∀ b σ' G' H', P (.ct b) → Rel T M Gs H0 (sb b) G' σ' H' → Ex G G' → D.ct σ' H'
structure JB (b : List Stmt) (S : List Sl) {ρ β σ : Type} (er : ρ → XD) (sb : β → List Sl) (sn : σ → List Sl) (w : W (Fl ρ β σ)) : Prop where
  run : ∀ (X : Cx) (M : MS) (Gs H0 : Hp) (σ : St) (G H : Hp), CxF T F X → Rel T M Gs H0 S G σ H → σ.length = F.N.length → ∀ P, w P → ∀ D : Ends, DOk T M Gs H0 G er sb sn P D → rdB X b D σ H
structure JS (st : Stmt) (S : List Sl) {ρ β σ : Type} (er : ρ → XD) (sb : β → List Sl) (sn : σ → List Sl) (w : W (Fl ρ β σ)) : Prop where
  run : ∀ (X : Cx) (M : MS) (Gs H0 : Hp) (σ : St) (G H : Hp), CxF T F X → Rel T M Gs H0 S G σ H → σ.length = F.N.length → ∀ P, w P → ∀ D : Ends, DOk T M Gs H0 G er sb sn P D → rdS X st D σ H
end
theorem lenS {X : Cx} {st : Stmt} {σ : St} {H : Hp} {D : Ends} (h : σ.length = X.N.length → rdS X st D σ H) : rdS X st D σ H := ⟨fun pins s I => (h I.len).run pins s I⟩
theorem DOk.up {T : Tx} {M : MS} {Gs H0 G G1 : Hp} {ρ β σ : Type} {er : ρ → XD} {sb : β → List Sl} {sn : σ → List Sl} {P : Fl ρ β σ → Prop} {D : Ends} (d : DOk T M Gs H0 G er sb sn P D) (x : Ex G G1) : DOk T M Gs H0 G1 er sb sn P D :=
  ⟨fun s σ' G' H' p r e => d.nx s σ' G' H' p r (x.trans e), d.rt, fun s σ' G' H' p r e => d.bk s σ' G' H' p r (x.trans e), fun s σ' G' H' p r e => d.ct s σ' G' H' p r (x.trans e)⟩
theorem lenG {X : Cx} {tg : Expr} {v : V} {σ : St} {H : Hp} {Q : St → Hp → Prop} (h : σ.length = X.N.length → RdG X tg v σ H Q) : RdG X tg v σ H Q := ⟨fun pins s u I r => (h I.len).run pins s u I r⟩
theorem lenB {X : Cx} {st : List Stmt} {σ : St} {H : Hp} {D : Ends} (h : σ.length = X.N.length → rdB X st D σ H) : rdB X st D σ H := ⟨fun pins s I => (h I.len).run pins s I⟩
section
variable {T : Tx} {F : Fr} {S S' : List Sl} {ρ β ζ τ α γ : Type} {er : ρ → XD} {sb : β → List Sl} {sn : ζ → List Sl} {sm : τ → List Sl} {e a b c tg iter : Expr} {st : Stmt} {rest body th el : List Stmt} {pos p p2 p3 : Pos}
theorem JB.nil (s : ζ) (h : Sub S (sn s)) : JB T F [] S er sb sn (pure (.nx s)) := ⟨fun X M Gs H0 σ G H C r _ P hp D d => b_nil (d.nx s σ G H hp (r.sub h) (Ex.refl _))⟩
theorem JB.cons {w : W (Fl ρ β τ)} {k : τ → W (Fl ρ β ζ)} (h : JS T F st S er sb sm w) (hr : ∀ t, JB T F rest (sm t) er sb sn (k t)) : JB T F (st :: rest) S er sb sn (seqW w k) :=
  ⟨fun X M Gs H0 σ G H C r hl P hp D d => b_cons (h.run X M Gs H0 σ G H C r hl (fun f => (match f with
    | .nx s => k s P
    | .rt r => P (.rt r)
    | .bk b => P (.bk b)
    | .ct b => P (.ct b))) (by
      have e : (fun f : Fl ρ β τ => (match f with
        | .nx s => k s
        | .rt r => pure (.rt r)
        | .bk b => pure (.bk b)
        | .ct b => pure (.ct b) : W (Fl ρ β ζ)) P) = fun f => (match f with
        | .nx s => k s P
        | .rt r => P (.rt r)
        | .bk b => P (.bk b)
        | .ct b => P (.ct b)) := by funext f; cases f <;> rfl
      rw [← e]; exact hp) _ ⟨fun s σ' G' H' p r' x => lenB fun hl' => (hr s).run X M Gs H0 σ' G' H' C r' (by rw [hl', C.N]) P p D (d.up x), fun r v G' H' p => d.rt r v G' H' p, fun b σ' G' H' p => d.bk b σ' G' H' p, fun b σ' G' H' p => d.ct b σ' G' H' p⟩)⟩
/-- the last statement -/
theorem JB.one {w : W (Fl ρ β ζ)} (h : JS T F st S er sb sn w) : JB T F [st] S er sb sn w := ⟨fun X M Gs H0 σ G H C r hl P hp D d => b_one (h.run X M Gs H0 σ G H C r hl P hp D d)⟩
theorem JB.imp {w w' : W (Fl ρ β ζ)} (h : JB T F body S er sb sn w) (i : ∀ P, w' P → w P) : JB T F body S er sb sn w' := ⟨fun X M Gs H0 σ G H C r hl P hp D d => h.run X M Gs H0 σ G H C r hl P (i P hp) D d⟩
/-- a list that grew is known from here on -/
theorem JB.frz {w : W (Fl ρ β ζ)} (i : Nat) {xs : List PyData} (hs : S[i]? = some (.l xs)) (h : JB T F body (S.set i (.d (.list xs))) er sb sn w) : JB T F body S er sb sn w := ⟨fun X M Gs H0 σ G H C r hl P hp D d => by
  obtain ⟨G1, r1, x1⟩ := r.frz hs
  exact h.run X M Gs H0 σ G1 H C r1 hl P hp D (d.up x1)⟩
/-- x = e, known data -/
theorem JS.set (i : Nat) {x : Str} {xp : Pos} {enc : α → PyData} {w : W α} (h : JE T F e (hideS S) enc w) (hsw : ∀ env, swapsWith e (some (.Name x xp)) pos.line env = pure false := by exact fun _ => sw_no rfl) (hi : F.sto i x = true := by kernel_rfl) : JS T F (.Assign [.Name x xp] e pos) S er sb (fun t : α => S.set i (.d (enc t))) (do let t ← w; pure (.nx t)) :=
  ⟨fun X M Gs H0 σ G H C r hl P hp D d => by
    obtain ⟨h1, h2, h3⟩ := C.sto hi
    have hlt : i < σ.length := by rw [hl, ← C.N]; exact (List.getElem?_eq_some_iff.mp h1).1
    exact s_set i (h.run X M σ G H C r.wd r.view _ hp _ fun v t G2 H2 s hv p => d.nx t _ G2 H2 p ((r.step s).setD hv hlt) s.gg) C.nd h1 h2 (hsw _) h3⟩
/-- .. where what grows is read, the outcome without lists -/
theorem JS.setF (i : Nat) {x : Str} {xp : Pos} {enc : α → PyData} [EncF enc] {w : W α} (h : JE T F e S enc w) (hsw : ∀ env, swapsWith e (some (.Name x xp)) pos.line env = pure false := by exact fun _ => sw_no rfl) (hi : F.sto i x = true := by kernel_rfl) : JS T F (.Assign [.Name x xp] e pos) S er sb (fun t : α => S.set i (.d (enc t))) (do let t ← w; pure (.nx t)) :=
  ⟨fun X M Gs H0 σ G H C r hl P hp D d => by
    obtain ⟨h1, h2, h3⟩ := C.sto hi
    have hlt : i < σ.length := by rw [hl, ← C.N]; exact (List.getElem?_eq_some_iff.mp h1).1
    refine s_set i (h.run X M σ _ H C r.fzWd r.fzView _ hp _ fun v t G2 H2 s hv p => ?_) C.nd h1 h2 (hsw _) h3
    obtain ⟨G3, r3, s3, x3, n3⟩ := r.unfz s
    exact d.nx t _ G3 H2 p (r3.setD (flat_less (fun a q => (n3 a q).imp id fun z => z.2) x3 _ _ (EncF.fl t) hv) hlt) s3.gg⟩
/-- x = a new list -/
theorem JS.setL (i : Nat) {x : Str} {xp : Pos} {enc : α → PyData} {w : W (List α)} (h : JL T F e (hideS S) enc w) (hsw : ∀ env, swapsWith e (some (.Name x xp)) pos.line env = pure false := by exact fun _ => sw_no rfl) (hi : F.sto i x = true := by kernel_rfl) : JS T F (.Assign [.Name x xp] e pos) S er sb (fun t : List α => S.set i (.l (t.map enc))) (do let t ← w; pure (.nx t)) :=
  ⟨fun X M Gs H0 σ G H C r hl P hp D d => by
    obtain ⟨h1, h2, h3⟩ := C.sto hi
    have hlt : i < σ.length := by rw [hl, ← C.N]; exact (List.getElem?_eq_some_iff.mp h1).1
    exact s_set i (h.run X M σ G H C r.wd r.view _ hp _ fun v t G2 H2 s ⟨q, vs, e1, e2, e3, e4, e5⟩ p => by
      subst e1; exact d.nx t _ G2 H2 p (r.setL s e2 e3 e4 e5 hlt) s.gg) C.nd h1 h2 (hsw _) h3⟩
theorem unfz_list {M : MS} {Gs H0 G H G2 H2 : Hp} {σ : St} {enc : α → PyData} [EncF enc] {t : List α} (r : Rel T M Gs H0 S G σ H) (s : Stp M (fz S σ G H) H G2 H2) {v : V} (hv : Rv T M H G2 H2 v (.l (t.map enc))) : ∃ p vs G3, v = .ref p ∧ Rel T M Gs H0 S G3 σ H2 ∧ Stp M G H G3 H2 ∧ H p = none ∧ G3 p = none ∧ H2 p = some (.lst vs) ∧ DpAll T.K G3 vs (t.map enc) := by
  obtain ⟨q, vs, e1, e2, e3, e4, e5⟩ := hv
  obtain ⟨G3, r3, s3, x3, n3⟩ := r.unfz s
  refine ⟨q, vs, G3, e1, r3, s3, e2, ?_, e4, ?_⟩
  · cases z : G3 q with
    | none => rfl
    | some o => have := x3 q o z; rw [e3] at this; cases this
  · have go : ∀ (t : List α) (vs : List V), DpAll T.K G2 vs (t.map enc) → DpAll T.K G3 vs (t.map enc) := by
      intro t
      induction t with
      | nil => intro vs h; cases h; exact .nil
      | cons x t ih =>
        intro vs h
        cases h with
        | cons h1 h2 => exact .cons (flat_less (fun a q => (n3 a q).imp id fun z => z.2) x3 _ _ (EncF.fl x) h1) (ih _ h2)
    exact go t vs e5
theorem JS.setLF (i : Nat) {x : Str} {xp : Pos} {enc : α → PyData} [EncF enc] {w : W (List α)} (h : JL T F e S enc w) (hsw : ∀ env, swapsWith e (some (.Name x xp)) pos.line env = pure false := by exact fun _ => sw_no rfl) (hi : F.sto i x = true := by kernel_rfl) : JS T F (.Assign [.Name x xp] e pos) S er sb (fun t : List α => S.set i (.l (t.map enc))) (do let t ← w; pure (.nx t)) :=
  ⟨fun X M Gs H0 σ G H C r hl P hp D d => by
    obtain ⟨h1, h2, h3⟩ := C.sto hi
    have hlt : i < σ.length := by rw [hl, ← C.N]; exact (List.getElem?_eq_some_iff.mp h1).1
    exact s_set i (h.run X M σ _ H C r.fzWd r.fzView _ hp _ fun v t G2 H2 s hv p => by
      obtain ⟨q, vs, G3, e1, r3, s3, e2, e3, e4, e5⟩ := unfz_list r s hv
      subst e1; exact d.nx t _ G3 H2 p (r.setL s3 e2 e3 e4 e5 hlt) s3.gg) C.nd h1 h2 (hsw _) h3⟩
/-- x = [..], x a local on the comprehension's line -/
theorem JS.setC (i : Nat) {x : Str} {xp : Pos} {enc : α → PyData} {w : W (List α)} (h : JC T F e (hideS S) enc w) (hsw : ∀ env : Env, env.scope = F.sc → swapsWith e (some (.Name x xp)) pos.line env = pure true := by exact fun env h => sw_true (by rw [h]; kernel_rfl) (by rw [h]; kernel_rfl) rfl (by decide +kernel)) (hi : F.loc i x = true := by kernel_rfl) : JS T F (.Assign [.Name x xp] e pos) S er sb (fun t : List α => S.set i (.l (t.map enc))) (do let t ← w; pure (.nx t)) :=
  ⟨fun X M Gs H0 σ G H C r hl P hp D d => by
    obtain ⟨h1, h2⟩ := C.loc hi
    have hlt : i < σ.length := by rw [hl, ← C.N]; exact (List.getElem?_eq_some_iff.mp h1).1
    obtain ⟨te, _, ps, f⟩ := h.run X C
    exact toS (ps i x xp pos h1 h2 (hsw _ C.sc)) (f M σ G H r.wd r.view (fun j hj => by rw [hl, ← C.N]; exact hj) _ hp _ fun v t G2 H2 s ⟨q, vs, e1, e2, e3, e4, e5⟩ p => by
      subst e1; exact d.nx t _ G2 H2 p (r.setL s e2 e3 e4 e5 hlt) s.gg)⟩
theorem JS.setCF (i : Nat) {x : Str} {xp : Pos} {enc : α → PyData} [EncF enc] {w : W (List α)} (h : JC T F e S enc w) (hsw : ∀ env : Env, env.scope = F.sc → swapsWith e (some (.Name x xp)) pos.line env = pure true := by exact fun env h => sw_true (by rw [h]; kernel_rfl) (by rw [h]; kernel_rfl) rfl (by decide +kernel)) (hi : F.loc i x = true := by kernel_rfl) : JS T F (.Assign [.Name x xp] e pos) S er sb (fun t : List α => S.set i (.l (t.map enc))) (do let t ← w; pure (.nx t)) :=
  ⟨fun X M Gs H0 σ G H C r hl P hp D d => by
    obtain ⟨h1, h2⟩ := C.loc hi
    have hlt : i < σ.length := by rw [hl, ← C.N]; exact (List.getElem?_eq_some_iff.mp h1).1
    obtain ⟨te, _, ps, f⟩ := h.run X C
    exact toS (ps i x xp pos h1 h2 (hsw _ C.sc)) (f M σ _ H r.fzWd r.fzView (fun j hj => by rw [hl, ← C.N]; exact hj) _ hp _ fun v t G2 H2 s hv p => by
      obtain ⟨q, vs, G3, e1, r3, s3, e2, e3, e4, e5⟩ := unfz_list r s hv
      subst e1; exact d.nx t _ G3 H2 p (r.setL s3 e2 e3 e4 e5 hlt) s3.gg)⟩
theorem JS.ret {enc : α → XD} {w : W α} (h : JX T F e S enc w) : JS T F (.Return (some e) pos) S enc sb sn (do let t ← w; pure (.rt t)) :=
  ⟨fun X M Gs H0 σ G H C r hl P hp D d => s_ret (h.run X M σ _ H C r.fzWd r.fzView _ hp _ fun v t G2 H2 s hv p => by
    classical
    have st : Stp M Gs H0 G2 H2 := ⟨r.stp.w0, r.stp.gg.trans (r.fzEx.trans s.gg), s.wd, (r.stp.trans (r.unfz s).choose_spec.2.1).hh, fun a h1 h2 => by
      have z : H a ≠ none := fun z => h1 (r.stp.back z)
      have f := s.fr a z h2
      by_cases o : Own S σ a
      · exact absurd (r.own o).1 h1
      · unfold fz at f
        rw [if_neg o] at f
        exact r.stp.fr a h1 f⟩
    refine d.rt t v G2 H2 p st ?_
    cases hx : enc t with
    | d x => rw [hx] at hv; exact hv
    | l xs => rw [hx] at hv; obtain ⟨q, vs, e1, e2, e3⟩ := hv; exact ⟨q, vs, e1, r.stp.back e2, e3⟩
    | p => rw [hx] at hv; exact hv
    | q φ => rw [hx] at hv; exact φ.bk (fun a z => r.stp.back z) hv)⟩
/-- return x, x a list that grew: new to the caller -/
theorem JS.retOwn (i : Nat) {x : Str} {xp : Pos} {enc : α → PyData} (t : List α) (hs : S[i]? = some (.l (t.map enc))) (hv : F.vis i x = true := by kernel_rfl) : JS T F (.Return (some (.Name x xp)) pos) S (fun t : List α => .l (t.map enc)) sb sn (pure (.rt t)) :=
  ⟨fun X M Gs H0 σ G H C r hl P hp D d => by
    obtain ⟨h1, h2, h3, h4⟩ := C.vis hv
    obtain ⟨p, vs, a, b, c, d', e⟩ := r.sl i _ hs
    exact s_ret (toE (pe_var h1 h2 h3 h4) ⟨_, a, d.rt t _ G H hp r.stp ⟨p, vs, rfl, b, c, d', e⟩⟩)⟩
theorem JS.ite {wc : W Bool} {w1 w2 : W (Fl ρ β ζ)} (hc : JT T F c S wc) (h1 : JB T F th S er sb sn w1) (h2 : JB T F el S er sb sn w2) : JS T F (.If c th el pos) S er sb sn (do let x ← wc; if x then w1 else w2) :=
  ⟨fun X M Gs H0 σ G H C r hl P hp D d => toS (ps_if (ptR c) (pbR th) (pbR el)) (hc.run X M σ _ H C r.fzWd r.fzView _ hp _ fun t G2 H2 s p => by
    obtain ⟨G3, r3, s3, _⟩ := r.unfz s
    cases t with
    | true => exact iteT (h1.run X M Gs H0 σ G3 H2 C r3 hl P p D (d.up s3.gg))
    | false => exact iteF (h2.run X M Gs H0 σ G3 H2 C r3 hl P p D (d.up s3.gg)))⟩
theorem JS.pass (s : ζ) (h : Sub S (sn s)) : JS T F (.Pass pos) S er sb sn (pure (.nx s)) := ⟨fun X M Gs H0 σ G H C r hl P hp D d => s_pass (d.nx s σ G H hp (r.sub h) (Ex.refl _))⟩
end
end DW
namespace DW
open PySem L2 PL PLS PyProof.Rows
theorem extL (l b : Addr) (ys zs : Array Value) (n m : Nat) (dd : Option Addr) (sl : Array (Option Value)) (h0 : ¬(!ys.isEmpty && Builtin.List.listTooLong (ys.size + zs.size)) = true) (h1 : ys.size ≤ sizeLine) (h2 : ys.size + zs.size ≤ sizeLine + 1) :
    Meets (Builtin.«list.extend» ⟨[.ref l, .ref b], []⟩) (fun _ R s => s.heap.get? l = some { cls := .type "list", dict := none, data := .seq ys n, slots := #[] } ∧ s.heap.get? b = some { cls := .type "list", dict := dd, data := .seq zs m, slots := sl } ∧ R (.ok (.ret Value.none)) { s with heap := s.heap.update l (Obj.mapSeq fun x => x ++ zs), toks := s.toks }) :=
  .of_wp fun prog w A R s h => by
    obtain ⟨hp, g, d, tk, os⟩ := s; obtain ⟨hl, hb, h⟩ := h
    have f1 := AutoSeq1.idx_int; have f2 := AutoSeq1.sub_tuple_tuple; have f3 := AutoSeq1.sub_list_list; have f4 := AutoSeq1.sub_tuple_list; have f5 := AutoSeq1.sub_list_tuple
    have hz' : (ys ++ zs).size ≤ sizeLine + 1 := by rw [Array.size_append]; exact h2
    wp_walk using (wpAny_updateSeq hl rfl (hz := h1) (_hz' := hz')), wpAny_loadPart' hl, wpAny_loadPart' hb; exact ⟨_, rfl, h⟩
theorem extT (l b : Addr) (ys zs : Array Value) (n m : Nat) (dd : Option Addr) (sl : Array (Option Value)) (h0 : ¬(!ys.isEmpty && Builtin.List.listTooLong (ys.size + zs.size)) = true) (h1 : ys.size ≤ sizeLine) (h2 : ys.size + zs.size ≤ sizeLine + 1) :
    Meets (Builtin.«list.extend» ⟨[.ref l, .ref b], []⟩) (fun _ R s => s.heap.get? l = some { cls := .type "list", dict := none, data := .seq ys n, slots := #[] } ∧ s.heap.get? b = some { cls := .type "tuple", dict := dd, data := .seq zs m, slots := sl } ∧ R (.ok (.ret Value.none)) { s with heap := s.heap.update l (Obj.mapSeq fun x => x ++ zs), toks := s.toks }) :=
  .of_wp fun prog w A R s h => by
    obtain ⟨hp, g, d, tk, os⟩ := s; obtain ⟨hl, hb, h⟩ := h
    have f1 := AutoSeq1.idx_int; have f2 := AutoSeq1.sub_tuple_tuple; have f3 := AutoSeq1.sub_list_list; have f4 := AutoSeq1.sub_tuple_list; have f5 := AutoSeq1.sub_list_tuple
    have hz' : (ys ++ zs).size ≤ sizeLine + 1 := by rw [Array.size_append]; exact h2
    wp_walk using (wpAny_updateSeq hl rfl (hz := h1) (_hz' := hz')), wpAny_loadPart' hl, wpAny_loadPart' hb; exact ⟨_, rfl, h⟩
def rExtS (K : PySem.W.Frag) : V → List V → Hp → VK → Prop := fun x vs H Q => ∃ l b xs zs, x = .ref l ∧ vs = [.ref b] ∧ H l = some (.lst xs) ∧ (SqL K H b zs ∨ SqT K H b zs) ∧ xs.length + zs.length ≤ sizeLine ∧ Q .non (upd H l (.lst (xs ++ zs)))
theorem mt_extS {X : Cx} : MtM X "list.extend" (rExtS X.K) := by
  intro pins s σ H x vs v us Q I rx rv h
  obtain ⟨l, b, xs, zs, rfl, rfl, hH, hB, hz, q⟩ := h
  cases rx
  obtain ⟨u, rfl, ru⟩ := rv.one
  cases ru
  obtain ⟨z, its, n, r, hl, e⟩ := I.lstM hH
  have fin : ∀ its2 : List Value, Vals zs its2 → (∀ (hlong : ¬ (!its.toArray.isEmpty && Builtin.List.listTooLong (its.toArray.size + its2.toArray.size)) = true) (h1 : its.toArray.size ≤ sizeLine) (h2 : its.toArray.size + its2.toArray.size ≤ sizeLine + 1), wpAny (model X.prog X.w) X.A (call (.builtin "list.extend") [.ref l, .ref b]) (EP X pins σ Q) X.xe s) → wpAny (model X.prog X.w) X.A (call (.builtin "list.extend") [.ref l, .ref b]) (EP X pins σ Q) X.xe s := fun its2 r2 k => by
    have e2 := r2.length
    have hsz : its.toArray.size + its2.toArray.size ≤ sizeLine := by rw [List.size_toArray, List.size_toArray]; omega
    exact k (by rw [notLongL hsz, Bool.and_false]; exact Bool.false_ne_true) (by rw [List.size_toArray]; omega) (by omega)
  have last : ∀ its2 : List Value, Vals zs its2 → EP X pins σ Q .none { s with heap := s.heap.update l (Obj.mapSeq fun x => x ++ its2.toArray), toks := s.toks } := fun its2 r2 => by
    refine ⟨.non, _, I.lset (its' := its ++ its2) hH e (by simp) (r.append r2) ?_, rfl, q⟩
    rw [List.length_append]; omega
  rcases hB with hB | hB
  · obtain ⟨its2, r2, ⟨⟨cls, dd, data, sl⟩, m, ho, hc, hdn, hd⟩, hl2⟩ := I.list hB
    simp only at hc hd
    subst hc hd
    exact fin its2 r2 fun a1 a2 a3 => call_meets PySem.F.slot_list_extend ⟨_, e, rfl⟩ PySem.F.entry_list_extend (PySem.F.args_list_extend_2 _ _) (extL l b its.toArray its2.toArray n m dd sl a1 a2 a3) ⟨e, ho, last its2 r2⟩
  · obtain ⟨its2, r2, ⟨⟨cls, dd, data, sl⟩, ho, hc, m, hd⟩, hl2⟩ := I.tuple hB
    simp only at hc hd
    subst hc hd
    exact fin its2 r2 fun a1 a2 a3 => call_meets PySem.F.slot_list_extend ⟨_, e, rfl⟩ PySem.F.entry_list_extend (PySem.F.args_list_extend_2 _ _) (extT l b its.toArray its2.toArray n m dd sl a1 a2 a3) ⟨e, ho, last its2 r2⟩
end DW
namespace DW
open PySem L2 PL PLS
section
variable {T : Tx} {F : Fr} {S S' : List Sl} {ρ β ζ τ α γ δ : Type} {er : ρ → XD} {sb : β → List Sl} {sn : ζ → List Sl} {sm : τ → List Sl} {e a b c tg iter o : Expr} {st : Stmt} {rest body th el : List Stmt} {pos p p2 p3 apos cpos spos : Pos}
/-- an expression whose value is known while lists grow -/
structure JK (T : Tx) (F : Fr) (e : Expr) (S : List Sl) {α : Type} (enc : α → PyData) (w : W α) : Prop where
  run : ∀ (X : Cx) (M : MS) (Gs H0 : Hp) (σ : St) (G H : Hp), CxF T F X → Rel T M Gs H0 S G σ H → ∀ P : α → Prop, w P → ∀ Q : VK, (∀ v t G2 H2, Rel T M Gs H0 S G2 σ H2 → Stp M G H G2 H2 → Dp T.K G2 v (enc t) → P t → Q v H2) → rdE X e σ H Q
theorem JX.kh {enc : α → PyData} {w : W α} (h : JE T F e (hideS S) enc w) : JK T F e S enc w := ⟨fun X M Gs H0 σ G H C r P hp Q q => h.run X M σ G H C r.wd r.view P hp Q fun v t G2 H2 s d pt => q v t G2 H2 (r.step s) s d pt⟩
theorem JX.kf {enc : α → PyData} [EncF enc] {w : W α} (h : JE T F e S enc w) : JK T F e S enc w := ⟨fun X M Gs H0 σ G H C r P hp Q q => h.run X M σ _ H C r.fzWd r.fzView P hp Q fun v t G2 H2 s d pt => by
  obtain ⟨G3, r3, s3, x3, n3⟩ := r.unfz s
  exact q v t G3 H2 r3 s3 (flat_less (fun a q => (n3 a q).imp id fun z => z.2) x3 _ _ (EncF.fl t) d) pt⟩
/-- a new list, while lists grow -/
structure JKL (T : Tx) (F : Fr) (e : Expr) (S : List Sl) {α : Type} (enc : α → PyData) (w : W (List α)) : Prop where
  run : ∀ (X : Cx) (M : MS) (Gs H0 : Hp) (σ : St) (G H : Hp), CxF T F X → Rel T M Gs H0 S G σ H → ∀ P : List α → Prop, w P → ∀ Q : VK, (∀ p vs t G2 H2, Rel T M Gs H0 S G2 σ H2 → Stp M G H G2 H2 → H p = none → G2 p = none → H2 p = some (.lst vs) → DpAll T.K G2 vs (t.map enc) → P t → Q (.ref p) H2) → rdE X e σ H Q
theorem JX.klh {enc : α → PyData} {w : W (List α)} (h : JL T F e (hideS S) enc w) : JKL T F e S enc w := ⟨fun X M Gs H0 σ G H C r P hp Q q => h.run X M σ G H C r.wd r.view P hp Q fun v t G2 H2 s ⟨p, vs, e1, e2, e3, e4, e5⟩ pt => by subst e1; exact q p vs t G2 H2 (r.step s) s e2 e3 e4 e5 pt⟩
theorem JX.klf {enc : α → PyData} [EncF enc] {w : W (List α)} (h : JL T F e S enc w) : JKL T F e S enc w := ⟨fun X M Gs H0 σ G H C r P hp Q q => h.run X M σ _ H C r.fzWd r.fzView P hp Q fun v t G2 H2 s d pt => by
  obtain ⟨p, vs, G3, e1, r3, s3, e2, e3, e4, e5⟩ := unfz_list r s d
  subst e1; exact q p vs t G3 H2 r3 s3 e2 e3 e4 e5 pt⟩
/-- l.append(e) -/
theorem JS.app (i : Nat) {x : Str} {xp : Pos} {enc : α → PyData} {w : W α} {xs : List α} (hs : S[i]? = some (.l (xs.map enc))) (h : JK T F e S enc w) (hv : F.vis i x = true := by kernel_rfl) (na : ∀ env, starEach [e] env = (false, eval e env) :: starEach [] env := by exact fun _ => star_one rfl)
    (hsw : ∀ env, swapsWith (.Call (.Attribute (.Name x xp) "append" apos) [e] [] cpos) none pos.line env = pure false := by exact fun _ => sw_no rfl)
    (bm : ∀ {X : Cx} {to : TE} {t : TA}, PE X (.Name x xp) to → PA X [e] t → PE X (.Call (.Attribute (.Name x xp) "append" apos) [e] [] cpos) (tBM X.K "list" rAppend to t) := by exact fun ho ha => pe_bm PySem.F.plainAttrs_list PySem.F.slot_list_append PySem.F.type_list_append mt_append ho ha) :
    JS T F (.Expr (.Call (.Attribute (.Name x xp) "append" apos) [e] [] cpos) pos) S er sb (fun t : α => S.set i (.l ((xs ++ [t]).map enc))) (do let t ← w; gd (xs.length < 100000); pure (.nx t)) :=
  ⟨fun X M Gs H0 σ G H C r hl P hp D d => by
    obtain ⟨h1, h2, h3, h4⟩ := C.vis hv
    obtain ⟨p, vs, a, b, c, d', e'⟩ := r.sl i _ hs
    refine toS (ps_expr (bm (pe_var h1 h2 h3 h4) (paR [e])) (hsw _)) ⟨_, a, Or.inl ⟨rfl, _, Or.inl (Or.inl d')⟩, toA (pa_cons (peR e) pa_nil (na _)) (h.run X M Gs H0 σ G H C r _ hp _ fun v t G2 H2 r2 s hd pt => ?_)⟩
    have hl2 := s.hh p _ (r.stp.nm b) d'
    have ez := dps_len e'
    rw [List.length_map] at ez
    refine ⟨p, vs, v, rfl, rfl, hl2, sz' (by rw [ez]; exact pt.1), d.nx t _ G2 _ pt.2 (r2.mut hs a ?_) s.gg⟩
    rw [List.map_append]; exact dps_app (s.gg.dps e') (.cons hd .nil)⟩
/-- l.extend(a list, a tuple), known -/
theorem JS.extK (i : Nat) {x : Str} {xp : Pos} {enc : α → PyData} {enc2 : List α → PyData} {w : W (List α)} {xs : List α} (hs : S[i]? = some (.l (xs.map enc))) (h : JK T F e S enc2 w) (h2 : ∀ t, enc2 t = .list (t.map enc) ∨ enc2 t = .tuple (t.map enc)) (hv : F.vis i x = true := by kernel_rfl) (na : ∀ env, starEach [e] env = (false, eval e env) :: starEach [] env := by exact fun _ => star_one rfl)
    (hsw : ∀ env, swapsWith (.Call (.Attribute (.Name x xp) "extend" apos) [e] [] cpos) none pos.line env = pure false := by exact fun _ => sw_no rfl)
    (bm : ∀ {X : Cx} {to : TE} {t : TA}, PE X (.Name x xp) to → PA X [e] t → PE X (.Call (.Attribute (.Name x xp) "extend" apos) [e] [] cpos) (tBM X.K "list" (rExtS X.K) to t) := by exact fun ho ha => pe_bm PySem.F.plainAttrs_list PySem.F.slot_list_extend PySem.F.type_list_extend mt_extS ho ha) :
    JS T F (.Expr (.Call (.Attribute (.Name x xp) "extend" apos) [e] [] cpos) pos) S er sb (fun t : List α => S.set i (.l ((xs ++ t).map enc))) (do let t ← w; gd (xs.length + t.length ≤ 100000); pure (.nx t)) :=
  ⟨fun X M Gs H0 σ G H C r hl P hp D d => by
    obtain ⟨q1, q2, q3, q4⟩ := C.vis hv
    obtain ⟨p, vs, a, b, c, d', e'⟩ := r.sl i _ hs
    refine toS (ps_expr (bm (pe_var q1 q2 q3 q4) (paR [e])) (hsw _)) ⟨_, a, Or.inl ⟨rfl, _, Or.inl (Or.inl d')⟩, toA (pa_cons (peR e) pa_nil (na _)) (h.run X M Gs H0 σ G H C r _ hp _ fun v t G2 H2 r2 s hd pt => ?_)⟩
    have hl2 := s.hh p _ (r.stp.nm b) d'
    have ez := dps_len e'
    rw [List.length_map] at ez
    have fin : ∀ (bb : Addr) (ws : List V), v = .ref bb → (SqL T.K G2 bb ws ∨ SqT T.K G2 bb ws) → DpAll T.K G2 ws (t.map enc) → rExtS X.K (.ref p) [v] H2 fun _ H3 => D.nx σ H3 := fun bb ws e1 e2 e3 => by
      have ew := dps_len e3
      rw [List.length_map] at ew
      refine ⟨p, bb, vs, ws, rfl, by rw [e1], hl2, ?_, sz (by rw [ez, ew]; exact pt.1), d.nx t _ G2 _ pt.2 (r2.mut hs a ?_) s.gg⟩
      · rw [C.K]; exact e2.imp r2.wd.gh.sql r2.wd.gh.sqt
      · rw [List.map_append]; exact dps_app (s.gg.dps e') e3
    rcases h2 t with z | z
    · rw [z] at hd
      obtain ⟨bb, ws, e1, e2, e3⟩ := dp_lst hd
      exact fin bb ws e1 (.inl e2) e3
    · rw [z] at hd
      obtain ⟨bb, ws, e1, e2, e3⟩ := dp_tup hd
      exact fin bb ws e1 (.inr e2) e3⟩
/-- l.extend(a new list) -/
theorem JS.extL (i : Nat) {x : Str} {xp : Pos} {enc : α → PyData} {w : W (List α)} {xs : List α} (hs : S[i]? = some (.l (xs.map enc))) (h : JKL T F e S enc w) (hv : F.vis i x = true := by kernel_rfl) (na : ∀ env, starEach [e] env = (false, eval e env) :: starEach [] env := by exact fun _ => star_one rfl)
    (hsw : ∀ env, swapsWith (.Call (.Attribute (.Name x xp) "extend" apos) [e] [] cpos) none pos.line env = pure false := by exact fun _ => sw_no rfl)
    (bm : ∀ {X : Cx} {to : TE} {t : TA}, PE X (.Name x xp) to → PA X [e] t → PE X (.Call (.Attribute (.Name x xp) "extend" apos) [e] [] cpos) (tBM X.K "list" (rExtS X.K) to t) := by exact fun ho ha => pe_bm PySem.F.plainAttrs_list PySem.F.slot_list_extend PySem.F.type_list_extend mt_extS ho ha) :
    JS T F (.Expr (.Call (.Attribute (.Name x xp) "extend" apos) [e] [] cpos) pos) S er sb (fun t : List α => S.set i (.l ((xs ++ t).map enc))) (do let t ← w; gd (xs.length + t.length ≤ 100000); pure (.nx t)) :=
  ⟨fun X M Gs H0 σ G H C r hl P hp D d => by
    obtain ⟨q1, q2, q3, q4⟩ := C.vis hv
    obtain ⟨p, vs, a, b, c, d', e'⟩ := r.sl i _ hs
    refine toS (ps_expr (bm (pe_var q1 q2 q3 q4) (paR [e])) (hsw _)) ⟨_, a, Or.inl ⟨rfl, _, Or.inl (Or.inl d')⟩, toA (pa_cons (peR e) pa_nil (na _)) (h.run X M Gs H0 σ G H C r _ hp _ fun bb ws t G2 H2 r2 s e1 e2 e3 e4 pt => ?_)⟩
    have hl2 := s.hh p _ (r.stp.nm b) d'
    have ez := dps_len e'
    have ew := dps_len e4
    rw [List.length_map] at ez ew
    refine ⟨p, bb, vs, ws, rfl, rfl, hl2, .inl (.inl (.inl e3)), sz (by rw [ez, ew]; exact pt.1), d.nx t _ G2 _ pt.2 (r2.mut hs a ?_) s.gg⟩
    rw [List.map_append]; exact dps_app (s.gg.dps e') e4⟩
/-- l.extend(m), m another that grows -/
theorem JS.extO (i j : Nat) {x y : Str} {xp yp : Pos} {enc : α → PyData} {xs ys : List α} (hs : S[i]? = some (.l (xs.map enc))) (hy : S[j]? = some (.l (ys.map enc))) (hv : F.vis i x = true := by kernel_rfl) (hw : F.vis j y = true := by kernel_rfl)
    (hsw : ∀ env, swapsWith (.Call (.Attribute (.Name x xp) "extend" apos) [.Name y yp] [] cpos) none pos.line env = pure false := by exact fun _ => sw_no rfl)
    (bm : ∀ {X : Cx} {to : TE} {t : TA}, PE X (.Name x xp) to → PA X [.Name y yp] t → PE X (.Call (.Attribute (.Name x xp) "extend" apos) [.Name y yp] [] cpos) (tBM X.K "list" (rExtS X.K) to t) := by exact fun ho ha => pe_bm PySem.F.plainAttrs_list PySem.F.slot_list_extend PySem.F.type_list_extend mt_extS ho ha) :
    JS T F (.Expr (.Call (.Attribute (.Name x xp) "extend" apos) [.Name y yp] [] cpos) pos) S er sb (fun _ : Unit => S.set i (.l ((xs ++ ys).map enc))) (do gd (xs.length + ys.length ≤ 100000); pure (.nx ())) :=
  ⟨fun X M Gs H0 σ G H C r hl P hp D d => by
    obtain ⟨q1, q2, q3, q4⟩ := C.vis hv
    obtain ⟨u1, u2, u3, u4⟩ := C.vis hw
    obtain ⟨p, vs, a, b, c, d', e'⟩ := r.sl i _ hs
    obtain ⟨p2, vs2, a2, b2, c2, d2, e2⟩ := r.sl j _ hy
    have ez := dps_len e'
    have ew := dps_len e2
    rw [List.length_map] at ez ew
    refine toS (ps_expr (bm (pe_var q1 q2 q3 q4) (pa_cons (pe_var u1 u2 u3 u4) pa_nil (star_one rfl))) (hsw _)) ⟨_, a, Or.inl ⟨rfl, _, Or.inl (Or.inl d')⟩, _, a2, p, p2, vs, vs2, rfl, rfl, d', .inl (.inl (.inl d2)), sz (by rw [ez, ew]; exact hp.1), d.nx () _ G _ hp.2 (r.mut hs a ?_) (Ex.refl _)⟩
    rw [List.map_append]; exact dps_app e' e2⟩
end
end DW
namespace DW
open PySem L2 PL PLS
theorem for_wk {M : MS} {K : PySem.W.Frag} {J : It} {G : Hp} {ds : List PyData} {σ0 : St} {Hs : Hp} {Dn : St → Hp → Prop} (Body : (St → Hp → Prop) → V → St → Hp → Prop) (wk : Wk M K J G ds) (Pv : Nat → St → Hp → Prop) (h0 : Pv 0 σ0 Hs) (hp : ∀ i σ H, Pv i σ H → ∃ G1, Ex G G1 ∧ Wd M G1 H)
    (hs : ∀ i d v σ H H', ds[i]? = some d → Pv i σ H → (∀ G1, Ex G G1 → Wd M G1 H → ∃ G2, Stp M G1 H G2 H' ∧ Dp K G2 v d) → Body (Pv (i + 1)) v σ H') (hd : ∀ σ H, Pv ds.length σ H → Dn σ H) :
    ∃ W : Nat → Nat → St → Hp → Prop, (∃ m, W 0 m σ0 Hs) ∧ ∀ i m σ H, W i m σ H → (J.stop i H ∧ Dn σ H) ∨ (J.go i H ∧ ∃ N : St → Hp → Prop, (∀ σ' H', N σ' H' → ∃ m', m' < m ∧ W (i + 1) m' σ' H') ∧ ∀ x H', J.yld i H x H' → Body N x σ H') := by
  refine ⟨fun i m σ H => m = ds.length - i ∧ i ≤ ds.length ∧ Pv i σ H, ⟨ds.length, by simp, Nat.zero_le _, h0⟩, ?_⟩
  rintro i m σ H ⟨rfl, hi, p⟩
  obtain ⟨G1, x, w⟩ := hp i σ H p
  by_cases hlt : i < ds.length
  · refine .inr ⟨wk.go i G1 H hlt x w, Pv (i + 1), fun σ' H' p' => ⟨ds.length - (i + 1), by omega, rfl, hlt, p'⟩, fun v H' y => ?_⟩
    refine hs i ds[i] v σ H H' (by simp [hlt]) p fun G1 x w => ?_
    obtain ⟨d, G2, e, s, h⟩ := wk.yld i G1 H v H' hlt x w y
    have : d = ds[i] := by simp [hlt] at e; exact e.symm
    exact ⟨G2, s, this ▸ h⟩
  · have e : i = ds.length := by omega
    subst e
    exact .inl ⟨wk.stop G1 H x w, hd σ H p⟩
theorem dps_set {K : PySem.W.Frag} {G : Hp} : ∀ {vs : List V} {ds : List PyData} {j : Nat} {v : V} {d : PyData}, DpAll K G vs ds → Dp K G v d → DpAll K G (vs.set j v) (ds.set j d)
  | _, _, _, _, _, .nil, _ => .nil
  | _, _, 0, _, _, .cons _ t, h => .cons h t
  | _, _, j + 1, _, _, .cons a t, h => .cons a (dps_set t h)
section
variable {T : Tx} {F : Fr} {S S' : List Sl} {ρ β ζ τ α γ δ : Type} {er : ρ → XD} {sb : β → List Sl} {sn : ζ → List Sl} {sm : τ → List Sl} {e a b c tg iter o : Expr} {st : Stmt} {rest body th el : List Stmt} {pos p p2 p3 apos cpos spos : Pos}
theorem JS.brk (t : β) (h : Sub S (sb t)) : JS T F (.Break pos) S er sb sn (pure (.bk t)) := ⟨fun X M Gs H0 σ G H C r hl P hp D d => toS ps_break (d.bk t σ G H hp (r.sub h) (Ex.refl _))⟩
theorem JS.cont (t : β) (h : Sub S (sb t)) : JS T F (.Continue pos) S er sb sn (pure (.ct t)) := ⟨fun X M Gs H0 σ G H C r hl P hp D d => toS ps_continue (d.ct t σ G H hp (r.sub h) (Ex.refl _))⟩
/-- what a turn of a loop ends in -/
theorem forW_turn {xs : List α} {x : α} {s : τ} {f : α → τ → W (Fl ρ τ τ)} {P : Fl ρ β τ → Prop} (h : forW (x :: xs) s f P) : f x s fun
    | .nx s' => forW xs s' f P
    | .ct s' => forW xs s' f P
    | .bk s' => P (.nx s')
    | .rt r => P (.rt r) := by
  have e : (fun g : Fl ρ τ τ => (match g with
    | .nx s' => forW xs s' f
    | .ct s' => forW xs s' f
    | .bk s' => pure (.nx s')
    | .rt r => pure (.rt r) : W (Fl ρ β τ)) P) = fun g => (match g with
    | .nx s' => forW xs s' f P
    | .ct s' => forW xs s' f P
    | .bk s' => P (.nx s')
    | .rt r => P (.rt r)) := by funext g; cases g <;> rfl
  rw [← e]; exact h
/-- for tg in a source: body -/
theorem JS.for {js : List Nat} {enc0 : α → PyData} {up : α → List PyData} {ws : W (List α)} {f : α → τ → W (Fl ρ τ τ)} (s0 : τ) (hi : JI T F tg iter (hideS S) enc0 ws) (hg : JG T F tg enc0 js up) (h0 : Sub S (sm s0)) (hb : ∀ x s, JB T F body (setS (sm s) js (up x)) er sm sm (f x s)) (hj : ∀ j ∈ js, j < F.N.length := by decide) : JS T F (.For tg iter body [] pos) S er sb sm (do let xs ← ws; forW xs s0 f) :=
  ⟨fun X M Gs H0 σ G H C r hl P hp D d => by
    refine toS (ps_for C.po C.calm (piR tg iter) (pgR tg) (pbR body) (hi.fs _)) (hi.run X M σ G H C r.wd r.view _ hp _ fun J xs G2 H2 s wk pxs => ?_)
    have r2 := (r.step s).sub h0
    refine for_wk (Body := fun N x σ H' => rdG X tg x σ H' fun σ2 H2 => rdB X body { D with nx := N, ct := N, bk := D.nx } σ2 H2) wk
      (fun i σ' H' => ∃ s G', Rel T M Gs H0 (sm s) G' σ' H' ∧ Ex G2 G' ∧ forW (xs.drop i) s f P) ⟨s0, G2, r2, Ex.refl _, pxs⟩ (fun i σ' H' ⟨s, G', r', x', _⟩ => ⟨G', x', r'.wd⟩) (fun i dd v σ' H' H3 hd ⟨s, G', r', x', pw⟩ hv => lenG fun hl' => ?_) (fun σ' H' ⟨s, G', r', x', pw⟩ => ?_)
    · obtain ⟨x, hx, rfl⟩ := map_get hd
      rw [drop_get hx] at pw
      obtain ⟨G3, s3, d3⟩ := hv G' x' r'.wd
      refine hg.run X G3 H3 σ' v x C s3.wd.gh d3 _ fun us hus => ?_
      have r3 := (r'.step s3).sets (js := js) hus fun j m => by rw [hl', C.N]; exact hj j m
      exact lenB fun hl3 => (hb x s).run X M Gs H0 _ G3 H3 C r3 (by rw [hl3, C.N]) _ (forW_turn pw) _ ⟨fun s' σ4 G4 H4 p r4 x4 => ⟨s', G4, r4, x'.trans (s3.gg.trans x4), p⟩, fun rr v G4 H4 p => d.rt rr v G4 H4 p, fun s' σ4 G4 H4 p r4 x4 => d.nx s' σ4 G4 H4 p r4 (‹Stp M G H G2 H2›.gg.trans (x'.trans (s3.gg.trans x4))), fun s' σ4 G4 H4 p r4 x4 => ⟨s', G4, r4, x'.trans (s3.gg.trans x4), p⟩⟩
    · rw [List.length_map, List.drop_length] at pw
      exact d.nx s σ' G' H' pw r' (‹Stp M G H G2 H2›.gg.trans x')⟩
theorem whileW_to {s0 : τ} {c : τ → W Bool} {f : τ → W (Fl ρ τ τ)} {P : Fl ρ β τ → Prop} (h : whileW s0 c f P) : ∃ I : Nat → τ → Prop, (∃ m, I m s0) ∧ ∀ m s, I m s → c s fun b => if b = true then f s (fun
    | .nx s' => ∃ m', m' < m ∧ I m' s'
    | .ct s' => ∃ m', m' < m ∧ I m' s'
    | .bk s' => P (.nx s')
    | .rt r => P (.rt r)) else P (.nx s) := h
theorem JS.while {wc : τ → W Bool} {f : τ → W (Fl ρ τ τ)} (s0 : τ) (hc : ∀ s, JT T F c (sm s) (wc s)) (h0 : Sub S (sm s0)) (hb : ∀ s, JB T F body (sm s) er sm sm (f s)) : JS T F (.While c body [] pos) S er sb sm (whileW s0 wc f) :=
  ⟨fun X M Gs H0 σ G H C r hl P hp D d => by
    obtain ⟨I, ⟨m0, i0⟩, turn⟩ := whileW_to hp
    refine toS (ps_while C.po (ptR c) (pbR body)) ⟨fun m σ' H' => ∃ s G', I m s ∧ Rel T M Gs H0 (sm s) G' σ' H' ∧ Ex G G', ⟨m0, s0, G, i0, r.sub h0, Ex.refl _⟩, fun m σ' H' ⟨s, G', im, r', x'⟩ => ?_⟩
    refine (hc s).run X M σ' _ H' C r'.fzWd r'.fzView _ (turn m s im) _ fun t G2 H2 st p => ?_
    obtain ⟨G3, r3, s3, _⟩ := r'.unfz st
    cases t with
    | true =>
      refine iteT ⟨fun σ4 H4 => ∃ m', m' < m ∧ ∃ s G', I m' s ∧ Rel T M Gs H0 (sm s) G' σ4 H4 ∧ Ex G G', fun σ4 H4 h => h, ?_⟩
      exact lenB fun hl3 => (hb s).run X M Gs H0 σ' G3 H2 C r3 (by rw [hl3, C.N]) _ p _ ⟨fun s' σ4 G4 H4 ⟨m', lt, im'⟩ r4 x4 => ⟨m', lt, s', G4, im', r4, x'.trans (s3.gg.trans x4)⟩, fun rr v G4 H4 p => d.rt rr v G4 H4 p, fun s' σ4 G4 H4 p r4 x4 => d.nx s' σ4 G4 H4 p r4 (x'.trans (s3.gg.trans x4)), fun s' σ4 G4 H4 ⟨m', lt, im'⟩ r4 x4 => ⟨m', lt, s', G4, im', r4, x'.trans (s3.gg.trans x4)⟩⟩
    | false => exact iteF (d.nx s σ' G3 H2 p r3 (x'.trans s3.gg))⟩
/-- a, b = e -/
theorem JS.unp {tgs : List Expr} {tpos : Pos} {k : Nat} {js : List Nat} {enc0 : α → PyData} {up : α → List PyData} {w : W α} (h : JK T F e S enc0 w) (hg : JG T F (.Tuple tgs k tpos) enc0 js up) (hj : ∀ j ∈ js, j < F.N.length := by decide) (hs : ∀ env, swapsWithSole [.Tuple tgs k tpos] e pos.line env = pure false := by exact fun _ => sw_noS rfl) (hw : ∀ env, swappedStores [.Tuple tgs k tpos] e env = pure none := by intro _; rfl)
    (h3 : ∀ env, (assignEach [.Tuple tgs k tpos] env).map (·.2) = [assign (.Tuple tgs k tpos) env] := by intro _; rfl) : JS T F (.Assign [.Tuple tgs k tpos] e pos) S er sb (fun t : α => setS S js (up t)) (do let t ← w; pure (.nx t)) :=
  ⟨fun X M Gs H0 σ G H C r hl P hp D d => toS (ps_asg (peR e) (pgR _) (hs _) (hw _) (h3 _)) (h.run X M Gs H0 σ G H C r _ hp _ fun v t G2 H2 r2 s hd p => hg.run X G2 H2 σ v t C r2.wd.gh hd _ fun us hus => d.nx t _ G2 H2 p (r2.sets hus fun j m => by rw [hl]; exact hj j m) s.gg)⟩
/-- x += e, ints -/
theorem JS.augI (i : Nat) {x : Str} {xp : Pos} {n : Int} {w : W Int} (hs : S[i]? = some (.d (.int n))) (h : JK T F e S eI w) (hi : F.sto i x = true := by kernel_rfl) : JS T F (.AugAssign (.Name x xp) .Add e pos) S er sb (fun t : Int => S.set i (.d (.int (n + t)))) (do let t ← w; pure (.nx t)) :=
  ⟨fun X M Gs H0 σ G H C r hl P hp D d => by
    obtain ⟨h1, h2, h3⟩ := C.sto hi
    have hlt : i < σ.length := by rw [hl, ← C.N]; exact (List.getElem?_eq_some_iff.mp h1).1
    obtain ⟨v0, a, b⟩ := r.sl i _ hs
    cases b
    exact toS (ps_aug C.nd h1 h2 (peR e) ip_add h3) ⟨_, a, h.run X M Gs H0 σ G H C r _ hp _ fun v t G2 H2 r2 s hd p => by
      cases hd
      exact ⟨n, t, rfl, rfl, d.nx t _ G2 H2 p (r2.setD (.int _) hlt) s.gg⟩⟩⟩
/-- l[k] = e -/
def putW (xs : List α) (k : Int) (t : α) : W (List α) := fun Q => ∃ j, ixN xs.length k = some j ∧ Q (xs.set j t)
theorem JS.put (i : Nat) {x : Str} {xp : Pos} {enc : α → PyData} {w : W α} {wk : W Int} {xs : List α} (hs : S[i]? = some (.l (xs.map enc))) (h : JK T F e S enc w) (hk : JK T F a S eI wk) (hv : F.vis i x = true := by kernel_rfl)
    (ha : ∀ env v, assign (.Subscript (.Name x xp) a spos) env v = (do
      let ov ← holding [v] (eval (.Name x xp) env)
      let iv ← holding [v, ov] (eval a env)
      standAt spos
      holding [v, ov, iv] (setItem ov iv v)
      release [v, ov, iv] []) := by intro _ _; rfl)
    (hsw : ∀ env, swapsWithSole [.Subscript (.Name x xp) a spos] e pos.line env = pure false := by exact fun _ => sw_noS rfl) (hw : ∀ env, swappedStores [.Subscript (.Name x xp) a spos] e env = pure none := by intro _; rfl)
    (h1 : ∀ env, (assignEach [.Subscript (.Name x xp) a spos] env).map (·.2) = [assign (.Subscript (.Name x xp) a spos) env] := by intro _; rfl) : JS T F (.Assign [.Subscript (.Name x xp) a spos] e pos) S er sb (fun t : List α => S.set i (.l (t.map enc))) (do let t ← w; let k ← wk; let l ← putW xs k t; pure (.nx l)) :=
  ⟨fun X M Gs H0 σ G H C r hl P hp D d => by
    obtain ⟨q1, q2, q3, q4⟩ := C.vis hv
    obtain ⟨p, vs, a', b, c, d', e'⟩ := r.sl i _ hs
    refine s_sub set_list (h.run X M Gs H0 σ G H C r _ hp _ fun v t G2 H2 r2 s hd pt => toE (pe_var q1 q2 q3 q4) ⟨_, a', hk.run X M Gs H0 σ G2 H2 C r2 _ pt _ fun v2 k G3 H3 r3 s3 hd2 ⟨j, hj, pj⟩ => ?_⟩) (ha _) (hsw _) (hw _) (h1 _)
    cases hd2
    have hl3 := s3.hh p _ (r2.stp.nm b) (s.hh p _ (r.stp.nm b) d')
    have ez := dps_len e'
    rw [List.length_map] at ez
    refine ⟨p, vs, k, j, rfl, rfl, hl3, by rw [ez]; exact hj, d.nx (xs.set j t) _ G3 _ pj (r3.mut hs a' ?_) (s.gg.trans s3.gg)⟩
    have hde := (s.gg.trans s3.gg).dps e'
    rw [List.map_set]
    exact dps_set hde (s3.gg.dp hd)⟩
/-- a call alone, of a def that gives back anything -/
theorem JS.expr {enc : α → PyData} {w : W α} (h : JK T F e S enc w) (hsw : ∀ env, swapsWith e none pos.line env = pure false := by exact fun _ => sw_no rfl) : JS T F (.Expr e pos) S er sb (fun _ : α => S) (do let t ← w; pure (.nx t)) :=
  ⟨fun X M Gs H0 σ G H C r hl P hp D d => toS (ps_expr (peR e) (hsw _)) (h.run X M Gs H0 σ G H C r _ hp _ fun v t G2 H2 r2 s hd p => d.nx t σ G2 H2 p r2 s.gg)⟩
end
/-! defs -/
def toSl : XD → Sl
  | .d x => .d x
  | .l _ => .no
  | .p => .p
  | .q φ => .q φ
def Fr.def (N : List Str) (st : Stmt) (k : Nat) : Fr := ⟨N, defScope st, ((defScope st).names.filter fun p => isCell ((defScope st).names.lookup p.1)).map (·.1), k⟩
def startS (N : List Str) (xs : List XD) : List Sl := xs.map toSl ++ List.replicate (N.length - xs.length) .no
theorem vps_get {T : Tx} {M : MS} {G : Hp} : ∀ {vs : List V} {xs : List XD}, VpAll T M G vs xs → vs.length = xs.length ∧ ∀ (i : Nat) (x : XD), xs[i]? = some x → ∃ v, vs[i]? = some v ∧ Vp T M G v x
  | _, _, .nil => ⟨rfl, fun i x h => by simp at h⟩
  | _, _, .cons h t => by
    obtain ⟨e, f⟩ := vps_get t
    refine ⟨by simp [e], fun i x hx => ?_⟩
    cases i with
    | zero => simp at hx; subst hx; exact ⟨_, rfl, h⟩
    | succ i => simpa using f i x (by simpa using hx)
theorem FD.of {T : Tx} {x : Str} {k : Nat} {st : Stmt} {f : Addr} {fd : FuncData} {N ps : List Str} {α ρ β ζ : Type} {ea : α → List XD} {er : ρ → XD} {sb : β → List Sl} {sn : ζ → List Sl} {m : α → W (Fl ρ β ζ)}
    (Td : TD T.K T.mg x st ps f fd) (Sc : FnScope N ps (defScope st)) (len : ∀ a, (ea a).length = ps.length) (hl : ps.length ≤ N.length) (hb : ∀ a, JB T (Fr.def N st k) (defBody st) (startS N (ea a)) er sb sn (m a)) : FD T x (k + 1) ps ea er (fun a => runW (m a)) := by
  refine ⟨f, fd, Td.fn.ok Sc (fun vs H Q E h => ?_) (fun cdv A outer s H vs Q E hr h => ?_), Td.g, Td.fn.kp, Td.b⟩
  · obtain ⟨M, G, a, P, _, _, hd, _, _⟩ := h
    rw [(vps_get hd).1, len a]
  · obtain ⟨M, G, a, Pq, wd, mi, hd, hm, q⟩ := h
    obtain ⟨el, ef⟩ := vps_get hd
    refine ⟨_, pbR _, ?_⟩
    have C : CxF T (Fr.def N st k) (bd T.P T.w T.K T.mg T.base N x st f cdv A outer s H E) := ⟨rfl, rfl, Sc.nd, rfl, rfl, fun _ _ => rfl, hr, PassesOwn.never⟩
    have lst : (L2.start N vs).length = N.length := by
      unfold L2.start
      rw [List.length_append, List.length_map, List.length_replicate, el, len a]
      omega
    have R : Rel T M G H (startS N (ea a)) G (L2.start N vs) H := by
      have get : ∀ (i : Nat) (sl : Sl), (startS N (ea a))[i]? = some sl → sl = .no ∨ ∃ x v, (ea a)[i]? = some x ∧ sl = toSl x ∧ (L2.start N vs)[i]? = some (some v) ∧ Vp T M G v x := fun i sl h => by
        unfold startS at h
        by_cases hi : i < (ea a).length
        · rw [List.getElem?_append_left (by rw [List.length_map]; exact hi), List.getElem?_map, List.getElem?_eq_getElem hi] at h
          obtain ⟨v, e1, e2⟩ := ef i (ea a)[i] (by simp [hi])
          refine .inr ⟨(ea a)[i], v, by simp [hi], (Option.some.inj h).symm, ?_, e2⟩
          unfold L2.start
          rw [List.getElem?_append_left (by rw [List.length_map, el]; exact hi), List.getElem?_map, e1]; rfl
        · rw [List.getElem?_append_right (by rw [List.length_map]; omega), List.getElem?_replicate] at h
          split at h
          · exact .inl (Option.some.inj h).symm
          · cases h
      have nol : ∀ (i : Nat) xs, (startS N (ea a))[i]? ≠ some (.l xs) := fun i xs h => by
        rcases get i _ h with z | ⟨x, v, _, e, _⟩
        · cases z
        · cases x <;> cases e
      refine ⟨.refl wd, fun i sl h => ?_, fun i j xs ys n h1 h2 => absurd h1 (nol i xs), mi⟩
      rcases get i sl h with rfl | ⟨x, v, _, e, e1, e2⟩
      · trivial
      · subst e
        cases x with
        | d y => exact ⟨v, e1, e2⟩
        | l ys => exact e2.elim
        | p => obtain ⟨p, c, hm, hv⟩ := e2; subst hv; exact ⟨p, c, hm, e1⟩
        | q φ => exact ⟨v, e1, e2 H⟩
    refine (hb a).run _ M G H (L2.start N vs) G H C R (by rw [lst]; rfl) _ hm _ ⟨fun _ _ _ _ z => z.elim, fun r v G' H' p s' hv => q v r G' H' s' hv p, fun _ _ _ _ z => z.elim, fun _ _ _ _ z => z.elim⟩
end DW
namespace DW
open PySem L2 PL
def topS (i : Nat) : Stmt := PySem.Challenge.pw_parishlines_k79_fault_of_holding.main.body.getD i (.Pass ⟨0, 0, 0, 0⟩)
def clsB (s : Stmt) : List Stmt := match s with
  | .ClassDef _ _ _ b _ _ _ _ _ _ _ => b
  | _ => []
def mthS (i j : Nat) : Stmt := (clsB (topS i)).getD j (.Pass ⟨0, 0, 0, 0⟩)
abbrev s_BadRegion_init : Stmt := mthS 3 0
abbrev n_BadRegion_init : List Str := ["self", "line", "why"]
theorem sc_BadRegion_init : FnScope n_BadRegion_init ["self", "line", "why"] (defScope s_BadRegion_init) := ⟨rfl, rfl, rfl, by decide +kernel, rfl, by decide +kernel, by decide +kernel⟩
abbrev s_BadDivision_init : Stmt := mthS 4 0
abbrev n_BadDivision_init : List Str := ["self", "why"]
theorem sc_BadDivision_init : FnScope n_BadDivision_init ["self", "why"] (defScope s_BadDivision_init) := ⟨rfl, rfl, rfl, by decide +kernel, rfl, by decide +kernel, by decide +kernel⟩
abbrev s_ordered : Stmt := topS 6
abbrev n_ordered : List Str := ["blocks", "block"]
theorem sc_ordered : FnScope n_ordered ["blocks"] (defScope s_ordered) := ⟨rfl, rfl, rfl, by decide +kernel, rfl, by decide +kernel, by decide +kernel⟩
abbrev s_tidy : Stmt := topS 7
abbrev n_tidy : List Str := ["villages", "blocks", "named", "block", "village"]
theorem sc_tidy : FnScope n_tidy ["villages", "blocks"] (defScope s_tidy) := ⟨rfl, rfl, rfl, by decide +kernel, rfl, by decide +kernel, by decide +kernel⟩
abbrev s_is_division : Stmt := topS 8
abbrev n_is_division : List Str := ["villages", "blocks"]
theorem sc_is_division : FnScope n_is_division ["villages", "blocks"] (defScope s_is_division) := ⟨rfl, rfl, rfl, by decide +kernel, rfl, by decide +kernel, by decide +kernel⟩
abbrev s_singles : Stmt := topS 9
abbrev n_singles : List Str := ["villages", "village"]
theorem sc_singles : FnScope n_singles ["villages"] (defScope s_singles) := ⟨rfl, rfl, rfl, by decide +kernel, rfl, by decide +kernel, by decide +kernel⟩
abbrev s_touched_by : Stmt := topS 10
abbrev n_touched_by : List Str := ["division", "stops", "place", "block", "stop"]
theorem sc_touched_by : FnScope n_touched_by ["division", "stops"] (defScope s_touched_by) := ⟨rfl, rfl, rfl, by decide +kernel, rfl, by decide +kernel, by decide +kernel⟩
abbrev s_join_blocks : Stmt := topS 11
abbrev n_join_blocks : List Str := ["division", "places", "joined", "place", "block", "village", "rest"]
theorem sc_join_blocks : FnScope n_join_blocks ["division", "places"] (defScope s_join_blocks) := ⟨rfl, rfl, rfl, by decide +kernel, rfl, by decide +kernel, by decide +kernel⟩
abbrev s_heads_of_blocks : Stmt := topS 13
abbrev n_heads_of_blocks : List Str := ["census", "blocks", "block", "village"]
theorem sc_heads_of_blocks : FnScope n_heads_of_blocks ["census", "blocks"] (defScope s_heads_of_blocks) := ⟨rfl, rfl, rfl, by decide +kernel, rfl, by decide +kernel, by decide +kernel⟩
abbrev s_fault_of_join : Stmt := topS 15
abbrev n_fault_of_join : List Str := ["region", "census", "division", "line", "stops", "number", "touched", "place"]
theorem sc_fault_of_join : FnScope n_fault_of_join ["region", "census", "division", "line"] (defScope s_fault_of_join) := ⟨rfl, rfl, rfl, by decide +kernel, rfl, by decide +kernel, by decide +kernel⟩
abbrev s_fault_of_stops : Stmt := topS 17
abbrev n_fault_of_stops : List Str := ["villages", "stops", "stop", "at"]
theorem sc_fault_of_stops : FnScope n_fault_of_stops ["villages", "stops"] (defScope s_fault_of_stops) := ⟨rfl, rfl, rfl, by decide +kernel, rfl, by decide +kernel, by decide +kernel⟩
abbrev s_fault_of_line : Stmt := topS 18
abbrev n_fault_of_line : List Str := ["villages", "stops", "number", "why"]
theorem sc_fault_of_line : FnScope n_fault_of_line ["villages", "stops", "number"] (defScope s_fault_of_line) := ⟨rfl, rfl, rfl, by decide +kernel, rfl, by decide +kernel, by decide +kernel⟩
abbrev s_Region_init : Stmt := mthS 19 0
abbrev n_Region_init : List Str := ["self", "villages", "lines", "at", "stops", "number", "why"]
theorem sc_Region_init : FnScope n_Region_init ["self", "villages", "lines"] (defScope s_Region_init) := ⟨rfl, rfl, rfl, by decide +kernel, rfl, by decide +kernel, by decide +kernel⟩
abbrev s_is_together : Stmt := topS 21
abbrev n_is_together : List Str := ["division", "party"]
theorem sc_is_together : FnScope n_is_together ["division", "party"] (defScope s_is_together) := ⟨rfl, rfl, rfl, by decide +kernel, rfl, by decide +kernel, by decide +kernel⟩
abbrev s_fault_of_member : Stmt := topS 22
abbrev n_fault_of_member : List Str := ["region", "census", "division", "lines", "line"]
theorem sc_fault_of_member : FnScope n_fault_of_member ["region", "census", "division", "lines", "line"] (defScope s_fault_of_member) := ⟨rfl, rfl, rfl, by decide +kernel, rfl, by decide +kernel, by decide +kernel⟩
abbrev s_fault_of_row : Stmt := topS 23
abbrev n_fault_of_row : List Str := ["region", "census", "party", "lines", "row", "division", "at", "line", "why"]
theorem sc_fault_of_row : FnScope n_fault_of_row ["region", "census", "party", "lines", "row"] (defScope s_fault_of_row) := ⟨rfl, rfl, rfl, by decide +kernel, rfl, by decide +kernel, by decide +kernel⟩
abbrev s_leaks : Stmt := topS 24
abbrev n_leaks : List Str := ["region", "census", "division", "line", "stops", "number", "touched", "place"]
theorem sc_leaks : FnScope n_leaks ["region", "census", "division", "line"] (defScope s_leaks) := ⟨rfl, rfl, rfl, by decide +kernel, rfl, by decide +kernel, by decide +kernel⟩
abbrev s_fault_of_split : Stmt := topS 25
abbrev n_fault_of_split : List Str := ["region", "census", "party", "lines", "division", "line"]
theorem sc_fault_of_split : FnScope n_fault_of_split ["region", "census", "party", "lines", "division"] (defScope s_fault_of_split) := ⟨rfl, rfl, rfl, by decide +kernel, rfl, by decide +kernel, by decide +kernel⟩
abbrev s_fault_of_holding : Stmt := topS 26
abbrev n_fault_of_holding : List Str := ["region", "census", "party", "lines", "paper"]
theorem sc_fault_of_holding : FnScope n_fault_of_holding ["region", "census", "party", "lines", "paper"] (defScope s_fault_of_holding) := ⟨rfl, rfl, rfl, by decide +kernel, rfl, by decide +kernel, by decide +kernel⟩
abbrev s_law_pool : Stmt := topS 28
abbrev n_law_pool : List Str := ["script", "cells", "cell"]
theorem sc_law_pool : FnScope n_law_pool ["script"] (defScope s_law_pool) := ⟨rfl, rfl, rfl, by decide +kernel, rfl, by decide +kernel, by decide +kernel⟩
abbrev s_law_draw : Stmt := topS 29
abbrev n_law_draw : List Str := ["pool", "many", "base", "digit", "mixed"]
theorem sc_law_draw : FnScope n_law_draw ["pool", "many"] (defScope s_law_draw) := ⟨rfl, rfl, rfl, by decide +kernel, rfl, by decide +kernel, by decide +kernel⟩
abbrev s_law_stops : Stmt := topS 30
abbrev n_law_stops : List Str := ["pool", "villages", "widest", "size", "left", "stops", "turn", "at"]
theorem sc_law_stops : FnScope n_law_stops ["pool", "villages", "widest"] (defScope s_law_stops) := ⟨rfl, rfl, rfl, by decide +kernel, rfl, by decide +kernel, by decide +kernel⟩
abbrev s_law_great : Stmt := topS 31
abbrev n_law_great : List Str := ["pool", "top", "way"]
theorem sc_law_great : FnScope n_law_great ["pool", "top"] (defScope s_law_great) := ⟨rfl, rfl, rfl, by decide +kernel, rfl, by decide +kernel, by decide +kernel⟩
abbrev s_law_mixed_row : Stmt := topS 32
abbrev n_law_mixed_row : List Str := ["pool", "many", "left", "row", "turn", "at"]
theorem sc_law_mixed_row : FnScope n_law_mixed_row ["pool", "many"] (defScope s_law_mixed_row) := ⟨rfl, rfl, rfl, by decide +kernel, rfl, by decide +kernel, by decide +kernel⟩
abbrev s_law_labels : Stmt := topS 33
abbrev n_law_labels : List Str := ["villages", "lines", "census", "labels", "turn", "before", "line", "marks", "stop", "total", "v", "label"]
theorem sc_law_labels : FnScope n_law_labels ["villages", "lines", "census"] (defScope s_law_labels) := ⟨rfl, rfl, rfl, by decide +kernel, rfl, by decide +kernel, by decide +kernel⟩
abbrev s_law_blocks : Stmt := topS 34
abbrev n_law_blocks : List Str := ["labels", "v", "mark"]
theorem sc_law_blocks : FnScope n_law_blocks ["labels"] (defScope s_law_blocks) := ⟨rfl, rfl, rfl, by decide +kernel, rfl, by decide +kernel, by decide +kernel⟩
abbrev s_law_same : Stmt := topS 35
abbrev n_law_same : List Str := ["got", "due", "k"]
theorem sc_law_same : FnScope n_law_same ["got", "due"] (defScope s_law_same) := ⟨rfl, rfl, rfl, by decide +kernel, rfl, by decide +kernel, by decide +kernel⟩
abbrev s_law_parting : Stmt := topS 36
abbrev n_law_parting : List Str := ["pool", "villages", "labels", "way", "one", "two", "label", "v", "rest", "u", "found", "marks"]
theorem sc_law_parting : FnScope n_law_parting ["pool", "villages", "labels"] (defScope s_law_parting) := ⟨rfl, rfl, rfl, by decide +kernel, rfl, by decide +kernel, by decide +kernel⟩
abbrev s_law_is_division : Stmt := topS 37
abbrev n_law_is_division : List Str := ["villages", "blocks", "flat", "block"]
theorem sc_law_is_division : FnScope n_law_is_division ["villages", "blocks"] (defScope s_law_is_division) := ⟨rfl, rfl, rfl, by decide +kernel, rfl, by decide +kernel, by decide +kernel⟩
abbrev s_law_marks : Stmt := topS 38
abbrev n_law_marks : List Str := ["villages", "blocks", "marks", "v", "k"]
theorem sc_law_marks : FnScope n_law_marks ["villages", "blocks"] (defScope s_law_marks) := ⟨rfl, rfl, rfl, by decide +kernel, rfl, by decide +kernel, by decide +kernel⟩
abbrev s_law_bent : Stmt := topS 39
abbrev n_law_bent : List Str := ["pool", "villages", "blocks", "way", "at", "v", "rows", "block", "k", "u"]
theorem sc_law_bent : FnScope n_law_bent ["pool", "villages", "blocks"] (defScope s_law_bent) := ⟨rfl, rfl, rfl, by decide +kernel, rfl, by decide +kernel, by decide +kernel⟩
abbrev s_law_lines_by : Stmt := topS 40
abbrev n_law_lines_by : List Str := ["pool", "villages", "census", "many", "widest", "top", "lines", "turn", "stops", "labels", "marks", "v", "reach", "way", "number"]
theorem sc_law_lines_by : FnScope n_law_lines_by ["pool", "villages", "census", "many", "widest", "top"] (defScope s_law_lines_by) := ⟨rfl, rfl, rfl, by decide +kernel, rfl, by decide +kernel, by decide +kernel⟩
abbrev s_law_party : Stmt := topS 41
abbrev n_law_party : List Str := ["pool", "villages", "row"]
theorem sc_law_party : FnScope n_law_party ["pool", "villages"] (defScope s_law_party) := ⟨rfl, rfl, rfl, by decide +kernel, rfl, by decide +kernel, by decide +kernel⟩
abbrev s_law_county : Stmt := topS 42
abbrev n_law_county : List Str := ["pool", "most", "wide", "villages", "many", "widest", "top", "census", "v", "lines"]
theorem sc_law_county : FnScope n_law_county ["pool", "most"] (defScope s_law_county) := ⟨rfl, rfl, rfl, by decide +kernel, rfl, by decide +kernel, by decide +kernel⟩
abbrev s_law_some_lines : Stmt := topS 43
abbrev n_law_some_lines : List Str := ["lines", "row", "k"]
theorem sc_law_some_lines : FnScope n_law_some_lines ["lines", "row"] (defScope s_law_some_lines) := ⟨rfl, rfl, rfl, by decide +kernel, rfl, by decide +kernel, by decide +kernel⟩
abbrev s_law_together : Stmt := topS 44
abbrev n_law_together : List Str := ["labels", "party", "v"]
theorem sc_law_together : FnScope n_law_together ["labels", "party"] (defScope s_law_together) := ⟨rfl, rfl, rfl, by decide +kernel, rfl, by decide +kernel, by decide +kernel⟩
abbrev s_law_row_fault : Stmt := topS 45
abbrev n_law_row_fault : List Str := ["villages", "lines", "census", "party", "chosen", "row", "labels", "k", "at", "marks", "v", "label"]
theorem sc_law_row_fault : FnScope n_law_row_fault ["villages", "lines", "census", "party", "chosen", "row"] (defScope s_law_row_fault) := ⟨rfl, rfl, rfl, by decide +kernel, rfl, by decide +kernel, by decide +kernel⟩
abbrev s_law_split_fault : Stmt := topS 46
abbrev n_law_split_fault : List Str := ["villages", "lines", "census", "party", "chosen", "blocks", "marks", "at", "hit", "v"]
theorem sc_law_split_fault : FnScope n_law_split_fault ["villages", "lines", "census", "party", "chosen", "blocks"] (defScope s_law_split_fault) := ⟨rfl, rfl, rfl, by decide +kernel, rfl, by decide +kernel, by decide +kernel⟩
abbrev s_law_joining : Stmt := topS 47
abbrev n_law_joining : List Str := ["pool", "villages", "lines", "census", "chosen", "labels", "row", "turn", "able", "k", "marks", "v", "at", "label"]
theorem sc_law_joining : FnScope n_law_joining ["pool", "villages", "lines", "census", "chosen"] (defScope s_law_joining) := ⟨rfl, rfl, rfl, by decide +kernel, rfl, by decide +kernel, by decide +kernel⟩
abbrev s_law_rows : Stmt := topS 48
abbrev n_law_rows : List Str := ["pool", "villages", "lines", "census", "chosen", "row", "at", "wild", "rows", "k", "turn"]
theorem sc_law_rows : FnScope n_law_rows ["pool", "villages", "lines", "census", "chosen"] (defScope s_law_rows) := ⟨rfl, rfl, rfl, by decide +kernel, rfl, by decide +kernel, by decide +kernel⟩
abbrev s_law_splits : Stmt := topS 49
abbrev n_law_splits : List Str := ["pool", "villages", "lines", "census", "chosen", "mine", "full", "found", "labels", "blocks"]
theorem sc_law_splits : FnScope n_law_splits ["pool", "villages", "lines", "census", "chosen"] (defScope s_law_splits) := ⟨rfl, rfl, rfl, by decide +kernel, rfl, by decide +kernel, by decide +kernel⟩
abbrev s_law_asked : Stmt := topS 50
abbrev n_law_asked : List Str := ["land", "people", "party", "chosen", "word", "material", "due", "census", "handed", "part", "got"]
theorem sc_law_asked : FnScope n_law_asked ["land", "people", "party", "chosen", "word", "material", "due"] (defScope s_law_asked) := ⟨rfl, rfl, rfl, by decide +kernel, rfl, by decide +kernel, by decide +kernel⟩
abbrev s_law : Stmt := topS 51
abbrev n_law : List Str := ["script", "pool", "villages", "lines", "census", "party", "land", "chosen", "turn", "k", "people", "dues", "one", "row", "blocks", "due"]
theorem sc_law : FnScope n_law ["script"] (defScope s_law) := ⟨rfl, rfl, rfl, by decide +kernel, rfl, by decide +kernel, by decide +kernel⟩
end DW
namespace PL
open PySem L2 DW
section
variable {P : Program} {w : World} {K : PySem.W.Frag} {mg : Str → Option Value} {base : Heap} {f : Addr} {fd : FuncData}
theorem e_divW {X : Cx} {M : MS} {σ : St} {G : Hp} {a b : Expr} {pos : Pos} {i j : Int} (ha : ED X M a σ G (.int i)) (hb : ED X M b σ G (.int j)) (hc : CDivW i j) : ED X M (.BinOp a .FloorDiv b pos) σ G (.int (i / j)) := EI.det (i_op (T := (· = i / j)) (P := (· = i)) (R := (· = j)) op_fdivW ha.i hb.i (fun x y e1 e2 => by subst e1; subst e2; exact ⟨hc, rfl⟩))
theorem df_draw (T : TD K mg "_law_draw" s_law_draw ["pool", "many"] f fd) (ml : mg "len" = none) (mi : mg "int" = none) : DF P w K mg base "_law_draw" 1 ["pool", "many"] (SpP K R_draw P_draw) := by
  refine df_P T sc_law_draw (fun ds ⟨_, e, _⟩ => by rw [e]; rfl) (fun cdv A outer sh H E p c G ws ds hr wd hd pre => ?_)
  obtain ⟨many, rfl, m1, m2⟩ := pre
  obtain ⟨v, rfl, hv⟩ := dps1 hd
  cases hv
  obtain ⟨cells, a0, b0, t0, s0, hp0⟩ := wd.st
  have fin : ∀ {k : Int} {H' : Hp}, But p H H' → (∃ a b t s, PoolAt H' p c cells a b t s) → 0 ≤ k → k < many → RetP K p c G H (R_draw [.int many]) (.int k) H' := fun {k H'} hb ⟨a, b, t, s, x⟩ h1 h2 =>
    ⟨.int k, G, stp_pool wd hb ⟨cells, a, b, t, s, x⟩, .int k, many, k, rfl, rfl, h1, h2⟩
  have kn : ∀ {H' : Hp} {a : Nat} {b t s : Int}, PoolAt H' p c cells a b t s → Dp K H' (.ref p) (.list [.list (cells.map .int), .int a, .int b, .int t, .int s]) := fun h => .lst (.inl (.inl h.hp)) (.cons (.lst (.inl (.inl h.hc)) (dps_of_ints _)) (.cons (.int _) (.cons (.int _) (.cons (.int _) (.cons (.int _) .nil)))))
  have big : ∀ {M : MS} {X : Cx} {σ : St} {G : Hp} {j k : Nat} {p1 p2 p3 : Pos}, ED X M (.BinOp (.Constant (.int 10) j p1) .Pow (.Constant (.int 18) k p2) p3) σ G (.int (10 ^ 18)) := EI.det (i_pow (T := (· = 10 ^ 18)) e_int.i e_int.i (fun i j e1 e2 => by subst e1; subst e2; exact ⟨⟨by decide, by decide, by decide⟩, by decide⟩))
  -- the rest behind the first if
  have last : ∀ (bv : Int) {H' : Hp} {a : Nat} {b t s : Int}, PoolAt H' p c cells a b t s → But p H H' → rdB (bd P w K mg base n_law_draw "_law_draw" s_law_draw f cdv A outer sh H E) ((defBody s_law_draw).drop 3) { nx := fun _ _ => False, rt := RetP K p c G H (R_draw [.int many]) } [some (.ref p), some (.int many), some (.int bv), none, none] H' := by
    intro bv H' a b t s hp hb
    refine b_at rfl ?_
    refine b_cons (s_if (P := fun _ => True) (Wd.ex0 (Ex.refl _)) (w_or (R := fun _ => True) (t_cmp op_gt rb_gt (e_ixL (e_var 0 (kn hp)) e_int rfl) e_int) (fun _ => w_or1 ((t_cmp op_ge rb_ge (e_var 2 (.int bv)) big).imp fun _ _ => trivial)) (fun _ => trivial) (fun _ _ _ => trivial)).t (fun G1 H1 st _ => ?_) (fun G1 H1 st _ => ?_))
    · have hp1 := hp.ex st.ex
      refine b_cons (s_setM 3 (e_mod (EI.det (i_int mi (e_ixL (e_var 0 (kn hp1)) e_int rfl).i)) (e_var 1 (.int many)) m1) (fun v H2 x2 hv => ?_) sc_law_draw.nd)
      cases hv
      have hp2 := hp1.ex x2
      refine b_cons (s_pool (kk := 2) (r_var 0 rfl) hp2 (e_divW (e_ixL (e_var 0 (kn hp2)) e_int rfl) (e_var 1 (.int many)) ⟨m1, Nat.lt_of_lt_of_le (m := 64) (PySem.Flt.log2_lt_of (k := 64) (by decide) (show many.natAbs < 2 ^ 64 by omega)) (by decide)⟩) (by decide) rfl (fun H3 x3 => ?_))
      have rv := fun (pp : Pos) => r_var (X := bd P w K mg base n_law_draw "_law_draw" s_law_draw f cdv A outer sh H E) (σ := [some (.ref p), some (.int many), some (.int bv), some (.int (b % many)), none]) (xp := pp) 3 rfl
      refine b_one (s_ret (rv _ _ _ (fin ?_ ⟨_, _, _, _, (hp2.ex x3).turn _ _ _ _⟩ (Int.emod_nonneg _ (by omega)) (Int.emod_lt_of_pos _ m1))))
      exact (hb.trans (.of (st.ex.trans (x2.trans x3)))).trans .upd
    · have hp1 := hp.ex st.ex
      refine b_nil ?_
      refine b_cons (s_setM 4 (e_mod (EI.det (i_int mi (e_add (e_add (e_mul (e_var 2 (.int bv)) e_int (.inr ⟨by decide, by decide⟩)) (e_mul (e_ixL (e_var 0 (kn hp1)) e_int rfl) e_int (.inr ⟨by decide, by decide⟩))) e_int).i)) e_int (by decide)) (fun v H2 x2 hv => ?_) sc_law_draw.nd)
      have hp2 := hp1.ex x2
      have r1 : ∀ x : Int, -(2 ^ 64) < x % 2147483647 ∧ x % 2147483647 < 2 ^ 64 := fun x => ⟨by have := Int.emod_nonneg x (show (2147483647 : Int) ≠ 0 by decide); omega, by have := Int.emod_lt_of_pos x (show (0 : Int) < 2147483647 by decide); omega⟩
      have r2 : ∀ x : Int, -(2 ^ 64) < x % 2147483399 ∧ x % 2147483399 < 2 ^ 64 := fun x => ⟨by have := Int.emod_nonneg x (show (2147483399 : Int) ≠ 0 by decide); omega, by have := Int.emod_lt_of_pos x (show (0 : Int) < 2147483399 by decide); omega⟩
      cases hv
      refine b_cons (s_setM 4 (e_mod (EI.det (i_int mi (e_add (e_add (e_mul (e_var 4 (.int _)) (e_var 4 (.int _)) (.inl (r1 _))) (e_mul (e_ixL (e_var 0 (kn hp2)) e_int rfl) e_int (.inr ⟨by decide, by decide⟩))) e_int).i)) e_int (by decide)) (fun v H3 x3 hv => ?_) sc_law_draw.nd)
      cases hv
      refine b_cons (s_setM 4 (e_mod (EI.det (i_int mi (e_add (e_add (e_mul (e_var 4 (.int _)) (e_var 4 (.int _)) (.inl (r2 _))) (e_var 2 (.int bv))) e_int).i)) e_int (by decide)) (fun v H4 x4 hv => ?_) sc_law_draw.nd)
      cases hv
      refine b_one (s_ret (e_mod (EI.det (i_int mi (e_div (e_var 4 (.int _)) e_int ⟨by decide, by decide⟩).i)) (e_var 1 (.int many)) m1 H4 H4 (Ex.refl _) (Wd.ex0 (Ex.refl _)) _ fun v G5 H5 st5 hv => ?_))
      cases hv
      exact fin (hb.trans (.of (st.ex.trans (x2.trans (x3.trans (x4.trans st5.ex)))))) ⟨_, _, _, _, hp2.ex (x3.trans (x4.trans st5.ex))⟩ (Int.emod_nonneg _ (by omega)) (Int.emod_lt_of_pos _ m1)
  refine b_at rfl ?_
  refine b_cons (s_pool (kk := 3) (r_var 0 rfl) hp0 (e_add (e_ixL (e_var 0 (kn hp0)) e_int rfl) e_int) (by decide) rfl (fun H1 x1 => ?_))
  have hp1 := (hp0.ex x1).turn a0 b0 (t0 + 1) s0
  have hb1 : But p H _ := (But.of x1).trans (But.upd (o := poolV c a0 b0 (t0 + 1) s0))
  refine b_cons (s_setM 2 (e_ixL (e_var 0 (kn hp1)) e_int rfl) (fun v H2 x2 hv => ?_) sc_law_draw.nd)
  cases hv
  have hp2 := hp1.ex x2
  have hb2 := hb1.trans (.of x2)
  refine b_cons (s_if (P := fun z => z = true → a0 < cells.length) (Wd.ex0 (Ex.refl _)) (w_and (P := fun _ => True) (R := fun z => z = decide ((a0 : Int) < (cells.map PyData.int).length)) ((t_cmp op_lt rb_lt (e_ixL (e_var 0 (kn hp2)) e_int rfl) e_int).imp fun _ _ => trivial) (fun _ => w_and1 (t_cmp op_lt rb_lt (e_ixL (e_var 0 (kn hp2)) e_int rfl) (e_lenL ml (e_ixL (e_var 0 (kn hp2)) e_int rfl)))) (fun _ z => by cases z) (fun z _ e1 e2 => by rw [e2] at e1; have := of_decide_eq_true e1.symm; rw [List.length_map] at this; omega)).t (fun G1 H3 st hlt => ?_) (fun G1 H3 st _ => ?_))
  · have ha := hlt rfl
    have hp3 := hp2.ex st.ex
    have hb3 := hb2.trans (.of st.ex)
    have hat : atI (cells.map PyData.int) (a0 : Int) = some (.int cells[a0]) := by
      unfold atI ixN
      rw [if_pos (by omega), if_pos (by rw [List.length_map]; omega)]
      simp [ha]
    refine b_cons (s_setM 2 (e_ixL (e_ixL (e_var 0 (kn hp3)) e_int rfl) (e_ixL (e_var 0 (kn hp3)) e_int rfl) hat) (fun v H4 x4 hv => ?_) sc_law_draw.nd)
    cases hv
    have hp4 := hp3.ex x4
    refine b_cons (s_pool (kk := 1) (r_var 0 rfl) hp4 (e_add (e_ixL (e_var 0 (kn hp4)) e_int rfl) e_int) (by decide) rfl (fun H5 x5 => ?_))
    have hp5 := (hp4.ex x5).turn (a0 + 1) b0 (t0 + 1) s0
    have hb5 := (hb3.trans (.of (x4.trans x5))).trans (But.upd (o := poolV c (a0 + 1 : Nat) b0 (t0 + 1) s0))
    refine b_one (s_if (Wd.ex0 (Ex.refl _)) (t_cmp op_ge rb_ge (e_var 2 (.int _)) big) (fun G6 H6 st6 _ => ?_) (fun G6 H6 st6 _ => ?_))
    · have hp6 := hp5.ex st6.ex
      refine b_one (s_pool (kk := 2) (r_var 0 rfl) hp6 (e_sub (e_var 2 (.int _)) big) (by decide) rfl (fun H7 x7 => ?_))
      exact last _ ((hp6.ex x7).turn _ _ _ _) ((hb5.trans (.of (st6.ex.trans x7))).trans .upd)
    · exact b_nil (last _ (hp5.ex st6.ex) (hb5.trans (.of st6.ex)))
  · exact b_nil (last _ (hp2.ex st.ex) (hb2.trans (.of st.ex)))
end
end PL
namespace DW
open PySem L2 PL PLS PyProof.Rows
section
variable {prog : Program} {w : World} {A : Around} {E : Value → Shared → Prop} {s : Shared}
/-- len(v) is answered k, old objects kept -/
def LenIs (prog : Program) (w : World) (h0 : Heap) (v : Value) (k : Nat) : Prop := ∀ (A : Around) (E : Value → Shared → Prop) (Q : Value → Shared → Prop) (s : Shared), (∀ b o, h0.get? b = some o → s.heap.get? b = some o) → (∀ t tk, Q (.int (k : Nat) t) { s with toks := tk }) → wpAny (model prog w) A (call (.builtin "len") [v]) Q E s
/-- the loop of max(a list, key=len): vb, the first of the greatest so far, at S -/
theorem maxlen_loop {l I S : Addr} {vs : List Value} {h0 : Heap} {kf : Nat → Nat} {R : Result → Shared → Prop} (hh : A.handled = none) (hl : h0.IsList l vs.toArray) (nI : h0.get? I = none) (nS : h0.get? S = none) (hlI : l ≠ I) (hSI : S ≠ I) (hlen : ∀ (i : Nat) v, vs[i]? = some v → LenIs prog w h0 v (kf i))
    (hR : ∀ i v h tk, vs[i]? = some v → (∀ j, j < vs.length → kf j ≤ kf i ∧ (j < i → kf j < kf i)) → (∀ b o, h0.get? b = some o → h.get? b = some o) → R (.ok (.ret v)) { s with heap := h, toks := tk }) :
    ∀ (r j i : Nat) (h : Heap) (tk : Nat) (vb : Value) (tb : Tok) (c : Nat), vs.length - (j + 1) = r → j + 1 ≤ vs.length → (∀ b o, h0.get? b = some o → h.get? b = some o) → h.get? S = some (seqObj "list" #[vb, .int (kf i : Nat) tb] c) → h.IsListIter I l (j + 1) → vs[i]? = some vb → i ≤ j → (∀ m, m ≤ j → kf m ≤ kf i ∧ (m < i → kf m < kf i)) →
      codeAny (model prog w) A (.builtin "max.loop" ⟨[.ref I, .builtin "len", .ref S], []⟩) R { s with heap := h, toks := tk } := by
  have nm : (toString "max" ++ toString ".loop" : String) = "max.loop" := by decide
  have Wk := Walks.list (prog := prog) (w := w) (A := A.in1) hh I l hlI vs.toArray
  have sz : vs.toArray.size = vs.length := by simp
  have keep : ∀ {h h' : Heap}, (∀ b o, h0.get? b = some o → h.get? b = some o) → (∀ b o, b ∉ [I] → h.get? b = some o → h'.get? b = some o) → ∀ b o, h0.get? b = some o → h'.get? b = some o := fun k1 k2 b o e => k2 b o (fun m => by rw [List.mem_singleton.mp m, nI] at e; cases e) (k1 b o e)
  have keepS : ∀ {h : Heap} {f : Obj → Obj}, (∀ b o, h0.get? b = some o → h.get? b = some o) → ∀ b o, h0.get? b = some o → (h.update S f).get? b = some o := fun k1 b o e => (Heap.get?_update_other _ _ (fun z => by rw [← z, nS] at e; cases e)).trans (k1 b o e)
  intro r
  induction r with
  | zero =>
    intro j i h tk vb tb c hr hj k hS hit hvb hij best
    refine codeAny_builtin PySem.F.entry_max_loop ?_
    rw [Around.under_plainId PySem.F.plain_max_loop _]
    refine wpAny_bind (m := seqItems? (.ref S)) (wpAny_seqItems hS rfl ?_)
    refine wpAny_bind (wpAny_tryCatch (Wk.done _ _ _ ⟨by rw [sz]; have : vs.length = j + 1 := by omega
                                                         rw [this]; exact hit, hl.at fun o e => k _ _ e⟩ fun h1 tk1 k1 => ?_))
    refine wpAny_bind (m := updateSeq S fun _ => #[]) ?_
    refine wpAny_updateSeq (k1 S _ (by simpa using hSI) hS) rfl (wpAny_bind (wpAny_letGo (wpAny_pure ?_)))
    exact hR i vb _ _ hvb (fun m hm => best m (by omega)) (keepS (keep k k1))
  | succ r ih =>
    intro j i h tk vb tb c hr hj k hS hit hvb hij best
    have lt : j + 1 < vs.length := by omega
    refine codeAny_builtin PySem.F.entry_max_loop ?_
    rw [Around.under_plainId PySem.F.plain_max_loop _]
    refine wpAny_bind (m := seqItems? (.ref S)) (wpAny_seqItems hS rfl ?_)
    refine wpAny_bind (wpAny_tryCatch (Wk.item (j + 1) _ _ _ (by rw [sz]; exact lt) ⟨hit, hl.at fun o e => k _ _ e⟩ fun v h1 tk1 hP st1 k1 => ?_))
    have hv : vs[j + 1]? = some v := by simpa using hP
    have hS1 := k1 S _ (by simpa using hSI) hS
    have k2 := keep k k1
    show wpAny _ A.in1 (tryCatch (holding [v] (call (.builtin "len") [v])) _ >>= _) _ _ _
    refine wpAny_bind (wpAny_tryCatch (wpAny_holding (hlen (j + 1) v hv _ _ _ _ k2 fun t2 tk2 => ?_)))
    show wpAny _ A.in1 (tryCatch (holding [v, .int (kf (j + 1) : Nat) t2] (richCompare .Gt (.int (kf (j + 1) : Nat) t2) (.int (kf i : Nat) tb) >>= _)) _ >>= _) _ _ _
    refine wpAny_bind (wpAny_tryCatch (wpAny_holding (wpAny_bind (CmpOf.ints_gt (prog := prog) (w := w) (A := A.in1) (P := fun n u => ∃ t, u = .int (kf n : Nat) t) (fun n => (kf n : Nat)) (fun _ _ q => q) (j + 1) i _ _ _ _ _ ⟨t2, rfl⟩ ⟨tb, rfl⟩ ?_))))
    refine wpAny_bind (wpAny_holding (wpAny_truthy_bool ?_))
    refine wpAny_bind (wpAny_letGo (wpAny_pure ?_))
    by_cases hb : kf i < kf (j + 1)
    · have e : decide (((kf (j + 1) : Nat) : Int) > (kf i : Nat)) = true := decide_eq_true (by omega)
      simp only [e, if_true]
      have ot : (h1.update S (Obj.mapSeq fun _ => #[v, .int (kf (j + 1) : Nat) t2])).get? I = h1.get? I := Heap.get?_update_other _ _ hSI
      refine wpAny_bind ?_
      refine wpAny_updateSeq hS1 rfl (wpAny_bind (wpAny_letGo ?_))
      rw [nm]
      refine wpAny_pure ⟨plainId_quiet PySem.F.plain_max_loop _, ih (j + 1) (j + 1) _ _ v t2 _ (by omega) (by omega) (keepS k2) (get?_update_seq hS1 fun _ => #[v, .int (kf (j + 1) : Nat) t2]) (let ⟨o, a1, a2, a3⟩ := st1.1; ⟨o, ot.trans a1, a2, a3⟩) hv (Nat.le_refl _) fun m hm => ?_⟩
      by_cases z : m = j + 1
      · subst z; exact ⟨Nat.le_refl _, fun q => absurd q (Nat.lt_irrefl _)⟩
      · have b1 := best m (by omega)
        exact ⟨by omega, fun _ => by omega⟩
    · have e : decide (((kf (j + 1) : Nat) : Int) > (kf i : Nat)) = false := decide_eq_false (by omega)
      simp only [e, Bool.false_eq_true, if_false]
      refine wpAny_bind (wpAny_letGo ?_)
      rw [nm]
      refine wpAny_pure ⟨plainId_quiet PySem.F.plain_max_loop _, ih (j + 1) i _ _ vb tb c (by omega) (by omega) k2 hS1 st1.1 hvb (by omega) fun m hm => ?_⟩
      by_cases z : m = j + 1
      · subst z; exact ⟨by omega, fun q => by omega⟩
      · exact best m (by omega)
theorem maxlen {l : Addr} {vs : List Value} {kf : Nat → Nat} {Q : Value → Shared → Prop} (hh : A.handled = none) (hl : s.heap.IsList l vs.toArray) (hne : 0 < vs.length) (hlen : ∀ (i : Nat) v, vs[i]? = some v → LenIs prog w s.heap v (kf i))
    (hQ : ∀ i v h tk, vs[i]? = some v → (∀ j, j < vs.length → kf j ≤ kf i ∧ (j < i → kf j < kf i)) → (∀ b o, s.heap.get? b = some o → h.get? b = some o) → Q v { s with heap := h, toks := tk }) :
    wpAny (model prog w) A (call (.builtin "max") [.ref l] [(Str.ofString "key", .builtin "len")]) Q E s := by
  have nm : (toString "max" ++ toString ".loop" : String) = "max.loop" := by decide
  obtain ⟨ol, hol, _⟩ := id hl
  have ll : l < s.heap.objs.size := Heap.lt_size hol
  refine kmk_tree PySem.F.kind_max PySem.F.plain_max PySem.F.entry_max (by unfold argsOk; kernel_rfl) ?_
  refine wpAny_bind (wpAny_of_eq (show Builtin.Builtins.bindParams "max" ["key", "default"] 0 ⟨[], [(Str.ofString "key", .builtin "len")]⟩ = pure [some (.builtin "len"), none] from rfl) ?_)
  refine wpAny_bind (wpAny_pure ?_)
  refine wpAny_bind (wpAny_pyIter_list hl ?_)
  refine wpAny_bind (wpAny_newList ?_ (Nat.zero_le _))
  rw [nm]
  refine wpAny_pure ⟨plainId_quiet PySem.F.plain_max_loop _, ?_⟩
  generalize hI : s.heap.objs.size = I
  have eS : (s.heap.push { cls := .type "list_iterator", data := .fields #[.ref l, .int 0 0] }).objs.size = I + 1 := by rw [size_push', hI]
  generalize hS : (s.heap.push { cls := .type "list_iterator", data := .fields #[.ref l, .int 0 0] }).objs.size = S
  have eS2 : S = I + 1 := by rw [← hS]; exact eS
  have ll2 : l < I := by rw [← hI]; exact ll
  have nI : s.heap.get? I = none := Heap.get?_none_of_le (Nat.le_of_eq hI)
  have nS : s.heap.get? S = none := Heap.get?_none_of_le (by rw [hI, eS2]; exact Nat.le_succ _)
  have hlI : l ≠ I := Nat.ne_of_lt ll2
  have hSI : S ≠ I := by rw [eS2]; exact Nat.succ_ne_self I
  have gI : ((s.heap.push { cls := .type "list_iterator", data := .fields #[.ref l, .int 0 0] }).push (seqObj "list" #[] 0)).get? I = some { cls := .type "list_iterator", data := .fields #[.ref l, .int 0 0] } := by
    rw [← hI]; exact Heap.get?_push_of_some _ (Heap.get?_push_size _ rfl)
  have gS : ((s.heap.push { cls := .type "list_iterator", data := .fields #[.ref l, .int 0 0] }).push (seqObj "list" #[] 0)).get? S = some (seqObj "list" #[] 0) := by
    rw [← hS]; exact Heap.get?_push_size _ rfl
  have k0 : ∀ b o, s.heap.get? b = some o → ((s.heap.push { cls := .type "list_iterator", data := .fields #[.ref l, .int 0 0] }).push (seqObj "list" #[] 0)).get? b = some o := fun b o e => Heap.get?_push_of_some _ (Heap.get?_push_of_some _ e)
  have Wk := Walks.list (prog := prog) (w := w) (A := A.in1) hh I l hlI vs.toArray
  refine codeAny_builtin PySem.F.entry_max_loop ?_
  rw [Around.under_plainId PySem.F.plain_max_loop _]
  refine wpAny_bind (m := seqItems? (.ref S)) (wpAny_seqItems gS rfl ?_)
  refine wpAny_bind (wpAny_tryCatch (Wk.item 0 _ _ _ (by simpa using hne) ⟨⟨_, gI, rfl, rfl⟩, hl.at fun o e => k0 _ _ e⟩ fun v h1 tk1 hP st1 k1 => ?_))
  have hv : vs[0]? = some v := by simpa using hP
  have hS1 := k1 S _ (by simpa using hSI) gS
  have k2 : ∀ b o, s.heap.get? b = some o → h1.get? b = some o := fun b o e => k1 b o (fun m => by rw [List.mem_singleton.mp m, nI] at e; cases e) (k0 b o e)
  show wpAny _ A.in1 (tryCatch (holding [v] (call (.builtin "len") [v])) _ >>= _) _ _ _
  refine wpAny_bind (wpAny_tryCatch (wpAny_holding (hlen 0 v hv _ _ _ _ k2 fun t2 tk2 => ?_)))
  have ot : (h1.update S (Obj.mapSeq fun _ => #[v, .int (kf 0 : Nat) t2])).get? I = h1.get? I := Heap.get?_update_other _ _ hSI
  refine wpAny_bind (m := updateSeq S fun _ => #[v, .int (kf 0 : Nat) t2]) ?_
  refine wpAny_updateSeq hS1 rfl ?_
  rw [nm]
  refine wpAny_pure ⟨plainId_quiet PySem.F.plain_max_loop _, ?_⟩
  refine maxlen_loop (s := s) (kf := kf) hh hl nI nS hlI hSI hlen ?_ _ 0 0 _ _ v t2 _ rfl (by omega) (fun b o e => (Heap.get?_update_other _ _ (fun z => by rw [← z, nS] at e; cases e)).trans (k2 b o e)) (get?_update_seq hS1 fun _ => #[v, .int (kf 0 : Nat) t2]) (let ⟨o, a1, a2, a3⟩ := st1.1; ⟨o, ot.trans a1, a2, a3⟩) hv (Nat.le_refl _) fun m hm => ?_
  · exact fun i v h tk a b c => hQ i v h tk a b c
  · have : m = 0 := by omega
    subst this; exact ⟨Nat.le_refl _, fun q => absurd q (Nat.lt_irrefl _)⟩
end
/-- max(a list of tuples, key=len) -/
def rMaxLen (K : PySem.W.Frag) : V → Hp → VK → Prop := fun v H Q => ∃ a vs ds, v = .ref a ∧ SqL K H a vs ∧ DpAll K H vs ds ∧ 0 < ds.length ∧ (∀ d ∈ ds, (∃ xs, d = .tuple xs) ∨ ∃ xs, d = .list xs) ∧ ∀ (i : Nat) (x : V) (d : PyData), vs[i]? = some x → ds[i]? = some d → (∀ (j : Nat) (e : PyData), ds[j]? = some e → lenD e ≤ lenD d ∧ (j < i → lenD e < lenD d)) → Q x H
theorem lens_at {X : Cx} {pins : List (Addr × Obj)} {σ : L2.St} {H : Hp} {s : Shared} (I : Inv X pins σ H s) {v : V} {d : PyData} {u : Value} (hd : Dp X.K H v d) (ht : (∃ xs, d = .tuple xs) ∨ ∃ xs, d = .list xs) (r : RelV v u) : LenIs X.prog X.w s.heap u (lenD d).toNat := fun A E Q s' k q => by
  rcases ht with ⟨ds, rfl⟩ | ⟨ds, rfl⟩
  · obtain ⟨a, vs, e1, h1, h2⟩ := dp_tup hd
    subst e1; cases r
    obtain ⟨its, rv, ⟨o, ho, hc, n, hda⟩, hz⟩ := I.tuple h1
    have zl : its.length = ds.length := by rw [← rv.length, dps_len h2]
    have fit : ((its.toArray.size : Nat) : Int) < 2 ^ 63 := by
      have := line63
      simp only [List.size_toArray, ← rv.length]; omega
    refine PyProof.Rows.len_tuple (s := s') ⟨o, k _ _ ho, hc, n, hda⟩ fit ?_
    have e : ((its.toArray.size : Nat) : Int) = ((lenD (.tuple ds)).toNat : Nat) := by simp [lenD, zl]
    rw [e]; exact q _ _
  · obtain ⟨a, vs, e1, h1, h2⟩ := dp_lst hd
    subst e1; cases r
    obtain ⟨its, rv, hl, hz⟩ := I.list h1
    have zl : its.length = ds.length := by rw [← rv.length, dps_len h2]
    have fit : ((its.toArray.size : Nat) : Int) < 2 ^ 63 := by
      have := line63
      simp only [List.size_toArray, ← rv.length]; omega
    refine PyProof.Rows.len_list (s := s') (hl.isList.at fun o e => k _ _ e) fit ?_
    have e : ((its.toArray.size : Nat) : Int) = ((lenD (.list ds)).toNat : Nat) := by simp [lenD, zl]
    rw [e]; exact q _ _
theorem max_len {X : Cx} {pins : List (Addr × Obj)} {s : Shared} {σ : L2.St} {H : Hp} {v : V} {u : Value} {Q : VK} (hc : X.calm = true) (I : Inv X pins σ H s) (r : RelV v u) (h : rMaxLen X.K v H Q) :
    wpAny (model X.prog X.w) X.A (call (.builtin "max") [u] [(Str.ofString "key", .builtin "len")]) (EP X pins σ Q) X.xe s := by
  obtain ⟨a, vs, ds, rfl, hs, hd, hn, ht, q⟩ := h
  cases r
  obtain ⟨its, rv, hl, hz⟩ := I.list hs
  have hlen := dps_len hd
  have hit := rv.length
  have nn : ∀ d ∈ ds, 0 ≤ lenD d := fun d hd => by rcases ht d hd with ⟨xs, rfl⟩ | ⟨xs, rfl⟩ <;> simp [lenD]
  refine maxlen (kf := fun i => (lenD (ds.getD i .none)).toNat) (I.ok.hd hc) hl.isList (by omega) (fun i u hu => ?_) (fun i u h' tk hu best k => ?_)
  · have hi : i < its.length := (List.getElem?_eq_some_iff.mp hu).1
    have hv : vs[i]? = some vs[i] := by simp [show i < vs.length by omega]
    obtain ⟨d, hd1, hd2⟩ := dps_getV hd hv
    have e : ds.getD i .none = d := by simp [hd1]
    rw [e]
    obtain ⟨u', hu', r'⟩ := rv.get hv
    rw [hu] at hu'; cases hu'
    exact lens_at I hd2 (ht d (List.mem_of_getElem? hd1)) r'
  · have hi : i < its.length := (List.getElem?_eq_some_iff.mp hu).1
    have hv : vs[i]? = some vs[i] := by simp [show i < vs.length by omega]
    obtain ⟨d, hd1, hd2⟩ := dps_getV hd hv
    obtain ⟨u', hu', r'⟩ := rv.get hv
    rw [hu] at hu'; cases hu'
    refine ⟨vs[i], H, I.kept (t' := tk) k, r', q i _ d hv hd1 fun j e he => ?_⟩
    have hj : j < its.length := by have := (List.getElem?_eq_some_iff.mp he).1; omega
    have b := best j hj
    have e1 : ds.getD j .none = e := by simp [he]
    have e2 : ds.getD i .none = d := by simp [hd1]
    rw [e1, e2] at b
    have n1 := nn e (List.mem_of_getElem? he)
    have n2 := nn d (List.mem_of_getElem? hd1)
    exact ⟨by omega, fun z => by have := b.2 z; omega⟩
theorem pe_maxLen {X : Cx} {b : Expr} {p p2 kp cpos : Pos} {ta : TA} (hc : X.calm = true) (hg : Gl X "max") (hm : X.mg "max" = none) (hg2 : Gl X "len") (hm2 : X.mg "len" = none) (ha : PA X [b] ta)
    (he : backTo cpos (starEach [b] X.env) = (false, eval b X.env) :: backTo cpos (starEach [] X.env) := by rfl) (hpl : (backTo cpos (starEach [b] X.env)).any (·.1) = false := by exact back_ok rfl) :
    PE X (.Call (.Name "max" p) [b] [⟨some "key", .Name "len" p2, kp⟩] cpos) (fun σ H Q => ta σ H fun vs H1 => ∃ v, vs = [v] ∧ rMaxLen X.K v H1 Q) := by
  refine ⟨fun pins s σ H Q I h => ?_⟩
  refine wpAny_Call_Name_kw (ld_blt (u := .builtin "max") I hg hm (by decide +kernel) ?_)
  refine PyProof.Rows.callWith_kw (thn (ha.run cpos pins s σ H _ I h) fun us s1 ⟨vs, H1, I1, r1, v, e, q1⟩ => ?_) he hpl (by rfl) (by rfl)
  subst e
  cases r1 with
  | cons r r2 =>
    cases r2
    show wpAny _ _ (evalAll ((do let v ← eval (.Name "len" p2) X.env; standAt cpos; pure v) :: (backToKw cpos (keywordEach [] X.env)).map (·.2))) _ _ s1
    refine wpAny_evalAll_cons (wpAny_bind (ld_blt (u := .builtin "len") I1 hg2 hm2 (by decide +kernel) (wpAny_bind (wpAny_standAt (wpAny_pure (wpAny_evalAll_nil ?_))))))
    exact max_len hc I1 r q1
/-- the first of the longest -/
def maxLenW {α : Type} (xs : List (List α)) : W (List α) := fun Q => 0 < xs.length ∧ ∀ (i : Nat) (x : List α), xs[i]? = some x → (∀ (j : Nat) (y : List α), xs[j]? = some y → y.length ≤ x.length ∧ (j < i → y.length < x.length)) → Q x
section
variable {T : Tx} {F : Fr} {S : List Sl} {α : Type} {a : Expr} {p p2 kp pos : Pos}
theorem JE.maxLenL (B : Blt T) {ea : α → PyData} {w : W (List (List α))} (h : JE T F a S (eL (eL ea)) w) (hg : F.glo "max" = true := by kernel_rfl) (hg2 : F.glo "len" = true := by kernel_rfl) (na : ∀ env, starEach [a] env = (false, eval a env) :: starEach [] env := by exact fun _ => star_one rfl)
    (he : ∀ env, backTo pos (starEach [a] env) = (false, eval a env) :: backTo pos (starEach [] env) := by exact fun _ => rfl) (hpl : ∀ env, (backTo pos (starEach [a] env)).any (·.1) = false := by exact fun _ => back_ok rfl) :
    JE T F (.Call (.Name "max" p) [a] [⟨some "key", .Name "len" p2, kp⟩] pos) S (eL ea) (do let l ← w; maxLenW l) :=
  ⟨fun X M σ G H C wd v P hp Q q => by
    obtain ⟨g1, g2⟩ := C.glo hg
    obtain ⟨g3, g4⟩ := C.glo hg2
    refine toE (pe_maxLen C.calm g1 (by rw [C.mg]; exact B.max) g3 (by rw [C.mg]; exact B.len) (pa_cons (peR a) pa_nil (na _)) (he _) (hpl _)) (h.run X M σ G H C wd v _ hp _ fun v ts G2 H2 s d px => ?_)
    obtain ⟨p', xs, rfl, h1, h2⟩ := dp_lst d
    refine ⟨_, rfl, p', xs, ts.map (eL ea), rfl, C.K ▸ s.wd.gh.sql h1, C.K ▸ s.wd.gh.dps h2, by rw [List.length_map]; exact px.1, fun d hd => ?_, fun i x d hx hd best => ?_⟩
    · obtain ⟨x, _, rfl⟩ := List.mem_map.mp hd; exact .inr ⟨_, rfl⟩
    · obtain ⟨t, ht, rfl⟩ := map_get hd
      obtain ⟨v', hv', dv⟩ := dps_get h2 hd
      rw [hx] at hv'; cases hv'
      have ln : ∀ l : List α, lenD (eL ea l) = (l.length : Nat) := fun l => by simp [lenD, eL]
      exact q _ t G2 H2 s dv (px.2 i t ht fun j y hy => by
        have := best j (eL ea y) (by rw [List.getElem?_map, hy]; rfl)
        rw [ln, ln] at this
        exact ⟨by omega, fun z => by have := this.2 z; omega⟩)⟩
end
end DW
namespace DW
open PySem L2 PL PLS
/-! lists of new lists -/
inductive IAll {β : Type} (I : V → β → Prop) : List V → List β → Prop
  | nil : IAll I [] []
  | cons {v : V} {b : β} {vs : List V} {bs : List β} (h : I v b) (t : IAll I vs bs) : IAll I (v :: vs) (b :: bs)
theorem IAll.imp {β : Type} {I J : V → β → Prop} {vs : List V} {bs : List β} (h : IAll I vs bs) (i : ∀ v b, I v b → J v b) : IAll J vs bs := by
  induction h with
  | nil => exact .nil
  | cons h _ ih => exact .cons (i _ _ h) ih
theorem IAll.app {β : Type} {I : V → β → Prop} {vs ws : List V} {bs cs : List β} (h : IAll I vs bs) (k : IAll I ws cs) : IAll I (vs ++ ws) (bs ++ cs) := by
  induction h with
  | nil => exact k
  | cons h _ ih => exact .cons h ih
theorem IAll.len {β : Type} {I : V → β → Prop} {vs : List V} {bs : List β} (h : IAll I vs bs) : vs.length = bs.length := by
  induction h with
  | nil => rfl
  | cons h _ ih => simp [ih]
theorem IAll.get {β : Type} {I : V → β → Prop} {vs : List V} {bs : List β} (h : IAll I vs bs) : ∀ {i : Nat} {b : β}, bs[i]? = some b → ∃ v, vs[i]? = some v ∧ I v b := by
  induction h with
  | nil => intro i b e; simp at e
  | cons h _ ih =>
    intro i b e
    cases i with
    | zero => simp at e; subst e; exact ⟨_, rfl, h⟩
    | succ i => simpa using ih (by simpa using e)
/-- a new list that is known -/
def NewL {α : Type} (K : PySem.W.Frag) (ea : α → PyData) (H0 G : Hp) (v : V) (xs : List α) : Prop := ∃ q ws, v = .ref q ∧ H0 q = none ∧ G q = some (.lst ws) ∧ DpAll K G ws (xs.map ea)
theorem NewL.up {α : Type} {K : PySem.W.Frag} {ea : α → PyData} {H0 G G' : Hp} {v : V} {xs : List α} (h : NewL K ea H0 G v xs) (e : Ex G G') : NewL K ea H0 G' v xs := by
  obtain ⟨q, ws, a, b, c, d⟩ := h; exact ⟨q, ws, a, b, e _ _ c, e.dps d⟩
theorem NewL.dp {α : Type} {K : PySem.W.Frag} {ea : α → PyData} {H0 G : Hp} {v : V} {xs : List α} (h : NewL K ea H0 G v xs) : Dp K G v (eL ea xs) := by
  obtain ⟨q, ws, a, b, c, d⟩ := h; subst a; exact .lst (.inl (.inl c)) d
theorem NewL.dps {α : Type} {K : PySem.W.Frag} {ea : α → PyData} {H0 G : Hp} {vs : List V} {xss : List (List α)} (h : IAll (NewL K ea H0 G) vs xss) : DpAll K G vs (xss.map (eL ea)) := by
  induction h with
  | nil => exact .nil
  | cons h _ ih => exact .cons h.dp ih
def LL {α : Type} (K : PySem.W.Frag) (ea : α → PyData) (xss : List (List α)) : KP where
  p := fun H0 G v => ∃ p vs, v = .ref p ∧ G p = some (.lst vs) ∧ IAll (NewL K ea H0 G) vs xss
  up := fun e ⟨p, vs, a, b, c⟩ => ⟨p, vs, a, e _ _ b, c.imp fun _ _ h => h.up e⟩
  bk := fun k ⟨p, vs, a, b, c⟩ => ⟨p, vs, a, b, c.imp fun _ _ ⟨q, ws, e1, e2, e3⟩ => ⟨q, ws, e1, k _ e2, e3⟩⟩
section
variable {T : Tx} {F : Fr} {S : List Sl} {ρ β ζ α γ : Type} {er : ρ → XD} {sb : β → List Sl} {sn : ζ → List Sl} {e a b c elt tg iter : Expr} {scope : Scope} {pos p p2 p3 : Pos}
theorem JE.varLL (i : Nat) {x : Str} {ea : α → PyData} (t : List (List α)) (hs : S[i]? = some (.q (LL T.K ea t))) (hv : F.vis i x = true := by kernel_rfl) : JE T F (.Name x pos) S (eL (eL ea)) (pure t) :=
  ⟨fun X M σ G H C wd v P hp Q q => by
    obtain ⟨h1, h2, h3, h4⟩ := C.vis hv
    obtain ⟨u, Hb, e, p, vs, e1, e2, e3⟩ := v.at_ i _ hs
    subst e1
    exact toE (pe_var h1 h2 h3 h4) ⟨_, e, q _ t G H (.refl wd) (show Dp _ _ _ _ from .lst (.inl (.inl e2)) (NewL.dps e3)) hp⟩⟩
theorem Rel.setQ {M : MS} {Gs H0 G H : Hp} {σ : St} (r : Rel T M Gs H0 S G σ H) {i : Nat} {v : V} {φ : KP} (hd : φ.p H0 G v) (hi : i < σ.length) : Rel T M Gs H0 (S.set i (.q φ)) G (σ.set i (some v)) H := by
  refine ⟨r.stp, fun j t h => ?_, fun j k xs ys n h1 h2 => ?_, r.mt⟩
  · by_cases e : i = j
    · subst e
      rw [List.getElem?_set, if_pos rfl] at h
      split at h
      · cases h; exact ⟨v, by rw [List.getElem?_set_self hi], hd⟩
      · cases h
    · rw [List.getElem?_set_ne e] at h ⊢; exact r.sl j t h
  · have f : ∀ {j : Nat} {xs : List PyData}, (S.set i (.q φ))[j]? = some (.l xs) → i ≠ j ∧ S[j]? = some (.l xs) := fun {j xs} h => by
      by_cases e : i = j
      · subst e
        rw [List.getElem?_set, if_pos rfl] at h
        split at h <;> cases h
      · rw [List.getElem?_set_ne e] at h; exact ⟨e, h⟩
    obtain ⟨e1, h1⟩ := f h1
    obtain ⟨e2, h2⟩ := f h2
    rw [List.getElem?_set_ne e1, List.getElem?_set_ne e2]
    exact r.ne j k xs ys n h1 h2
/-- x = [a], a a new list -/
theorem JS.setLL (i : Nat) {x : Str} {xp : Pos} {ea : α → PyData} {w : W (List α)} (h : JL T F a (hideS S) ea w) (hi : F.sto i x = true := by kernel_rfl) (na : ∀ env, starEach [a] env = (false, eval a env) :: starEach [] env := by exact fun _ => star_one rfl) : JS T F (.Assign [.Name x xp] (.List [a] p) pos) S er sb (fun t : List (List α) => S.set i (.q (LL T.K ea t))) (do let t ← w; pure (.nx [t])) :=
  ⟨fun X M Gs H0 σ G H C r hl P hp D d => by
    obtain ⟨h1, h2, h3⟩ := C.sto hi
    have hlt : i < σ.length := by rw [hl, ← C.N]; exact (List.getElem?_eq_some_iff.mp h1).1
    refine s_set i (toE (pe_lst (pa_cons (peR a) pa_nil (na _))) (h.run X M σ G H C r.wd r.view _ hp _ fun v t G2 H2 s ⟨q, ws, e1, e2, e3, e4, e5⟩ p => ⟨sz (by show 1 ≤ 100000; omega), fun l hl => ?_⟩)) C.nd h1 h2 (sw_no rfl) h3
    subst e1
    have s1 := s.know e2 e4
    have s2 := s1.trans (.laid (o := .lst [.ref q]) s1.wd hl)
    have gl := s1.wd.gh.back hl
    refine d.nx [t] _ _ _ p ((r.step s2).setQ ⟨l, [.ref q], rfl, upd_same, .cons ⟨q, ws, rfl, r.stp.back e2, ?_, ?_⟩ .nil⟩ hlt) s2.gg
    · exact (Ex.new gl) _ _ upd_same
    · exact (Ex.new gl).dps ((Ex.new e3).dps e5)⟩
/-- the new list of new lists so far -/
def LcI (M : MS) (G1 H1 : Hp) (Dl : Addr) {β : Type} (I : Hp → V → β → Prop) (R : List β → Prop) (H' : Hp) : Prop :=
  ∃ Gi acc ys, Stp M G1 H1 Gi H' ∧ Gi Dl = none ∧ H' Dl = some (.lst acc) ∧ IAll (I Gi) acc ys ∧ R ys
/-- x = x + [elt for tg in x if c], all of new lists -/
theorem JS.catLL {vs js : List Nat} {up : List α → List PyData} (i : Nat) {x : Str} {xp xp2 xp3 p4 : Pos} {ea : α → PyData} {xss : List (List α)} {wc : List α → W Bool} {we : List α → W (List α)} (hs : S[i]? = some (.q (LL T.K ea xss))) (hg : JG T (F.blk scope) tg (eL ea) js up)
    (hc : ∀ y, JT T (F.blk scope) c (setS (wipeS (hideS S) vs) js (up y)) (wc y)) (he : ∀ y, JL T (F.blk scope) elt (setS (wipeS (hideS S) vs) js (up y)) ea (we y)) (ok : blkC F.N F.sc scope (ownOf F vs) = true := by kernel_rfl) (hj : ∀ j ∈ js, j ∈ vs ∧ j < F.N.length := by decide) (hi : F.sto i x = true := by kernel_rfl) (hv : F.vis i x = true := by kernel_rfl) :
    JS T F (.Assign [.Name x xp] (.BinOp (.Name x xp2) .Add (.ListComp elt [⟨tg, .Name x xp3, [c], 0⟩] scope p3) p4) pos) S er sb (fun t : List (List α) => S.set i (.q (LL T.K ea (xss ++ t)))) (do gd (xss.length < 40000); let t ← cmpW xss wc we; pure (.nx t)) :=
  ⟨fun X M Gs H0 σ G H C r hl P hp D d => by
    obtain ⟨h1, h2, h3⟩ := C.sto hi
    obtain ⟨q1, q2, q3, q4⟩ := C.vis hv
    have hlt : i < σ.length := by rw [hl, ← C.N]; exact (List.getElem?_eq_some_iff.mp h1).1
    obtain ⟨v0, e0, p0, vs0, e1, e2, e3⟩ := r.sl i _ hs
    subst e1
    obtain ⟨hz, hp⟩ := hp
    obtain ⟨bok, bcx⟩ := C.blk ok
    have len0 := e3.len
    have hd0 : DpAll T.K G vs0 (xss.map (eL ea)) := NewL.dps e3
    refine s_set i (toE (pe_op op_catS (pe_var q1 q2 q3 q4) (pe_lc (g := bkG X scope tg) (tt := bkT X scope c) (te := bkE X scope elt) C.calm C.nd (pi_list (pe_var q1 q2 q3 q4)) bok (fun s H C cl fp => bk_pg s H C cl fp) (fun s H C cl fp => pts_one (bk_pt s H C cl fp)) (fun s H C cl fp => bk_pe s H C cl fp) (fun _ => rfl))) ⟨_, e0, _, e0, p0, rfl, ⟨vs0, C.K ▸ .inl (.inl (r.wd.gh _ _ e2))⟩, fun Dl hD => ?_⟩) C.nd h1 h2 (sw_no rfl) h3
    rw [own_map]
    have wk : Wk M X.K (Itl X.K p0) G (xss.map (eL ea)) := .list (.inl (.inl e2)) (by rw [C.K]; exact hd0)
    refine lc_wk wk (fun k H' => LcI M G H Dl (fun Gi => NewL T.K ea H0 Gi) (fun ys => ys.length ≤ k ∧ cmpW (xss.drop k) wc we fun rest => P (.nx (ys ++ rest))) H') ⟨G, [], [], .laidN r.wd hD, r.wd.gh.back hD, upd_same, .nil, Nat.zero_le _, hp⟩ (fun k H' ⟨Gi, _, _, s, _⟩ => ⟨Gi, s.gg, s.wd⟩) (fun k dd u H' H3 hd l hu => ?_) (fun H' l => ?_)
    · obtain ⟨y, hy, rfl⟩ := map_get hd
      have hk : k < xss.length := (List.getElem?_eq_some_iff.mp hy).1
      rw [drop_get hy] at l
      intro s0 H00 Ca cl fp
      obtain ⟨Gi, acc, ys, si, gD, hl1, hda, hyl, rr⟩ := l
      obtain ⟨G3, s3, d3⟩ := hu Gi si.gg si.wd
      refine hg.run _ G3 H3 _ u y (bcx s0 H00 Ca cl fp) s3.wd.gh (C.K ▸ d3) _ fun us hus => ⟨wipe_set fun j m => (hj j m).1, ?_⟩
      have v3 : View T M G3 (setAll (wipe σ vs) js us) (setS (wipeS (hideS S) vs) js (up y)) := View.sets ((r.view.up (si.gg.trans s3.gg)).wipe vs) hus fun j m => by rw [wipe_length, hl]; exact (hj j m).2
      have nmD := si.nm hD
      have hl3 := s3.hh Dl _ nmD hl1
      have gD3 := s3.none (some_ne hl1) gD
      intro s9 H9 C9 cl9 fp9
      refine (hc y).run _ M _ G3 H3 (bcx s9 H9 C9 cl9 fp9) s3.wd v3 _ rr _ fun t G4 H4 s4 pb => ?_
      have hl4 := s4.hh Dl _ nmD hl3
      have gD4 := s4.none (some_ne hl3) gD3
      cases t with
      | false => exact iteF ⟨G4, acc, ys, (si.trans s3).trans s4, gD4, hl4, hda.imp fun _ _ h => h.up (s3.gg.trans s4.gg), by omega, pb⟩
      | true =>
        refine iteT fun s8 H8 C8 cl8 fp8 => (he y).run _ M _ G4 H4 (bcx s8 H8 C8 cl8 fp8) s4.wd (v3.up s4.gg) _ pb _ fun z zs G5 H5 s5 ⟨q, ws, b1, b2, b3, b4, b5⟩ pz => ?_
        subst b1
        have hl5 := s5.hh Dl _ nmD hl4
        have gD5 := s5.none (some_ne hl4) gD4
        have sk := s5.know b2 b4
        have nq : Dl ≠ q := fun e => by subst e; rw [hl4] at b2; cases b2
        have gD6 : (upd G5 q (.lst ws)) Dl = none := by rw [upd_ne nq]; exact gD5
        have st := ((si.trans s3).trans s4).trans sk
        refine ⟨acc, hl5, sz' (by rw [hda.len]; omega), upd G5 q (.lst ws), acc ++ [.ref q], ys ++ [zs], st.mut hD gD6, gD6, upd_same, (hda.imp fun _ _ h => h.up (s3.gg.trans (s4.gg.trans sk.gg))).app (.cons ⟨q, ws, rfl, ?_, upd_same, (Ex.new b3).dps b5⟩ .nil), by simp; omega, ?_⟩
        · exact r.stp.back (((si.trans s3).trans s4).back b2)
        · have e : (fun rest => P (.nx (ys ++ (zs :: rest)))) = fun rest => P (.nx ((ys ++ [zs]) ++ rest)) := by funext rest; rw [List.append_assoc]; rfl
          have pz : cmpW (xss.drop (k + 1)) wc we (fun rest => P (.nx (ys ++ (zs :: rest)))) := pz
          rw [e] at pz; exact pz
    · obtain ⟨Gi, acc, ys, si, gD, hl1, hda, hyl, rr⟩ := l
      rw [List.length_map, List.drop_length] at rr
      have rr : P (.nx (ys ++ [])) := rr
      rw [List.append_nil] at rr
      rw [List.length_map] at hyl
      refine ⟨p0, Dl, vs0, acc, rfl, rfl, .inl (.inl (si.wd.gh _ _ (si.gg _ _ e2))), .inl (.inl hl1), sz (by rw [len0, hda.len]; omega), fun l hl2 => ?_⟩
      have s2 := si.trans (.laid (o := .lst (vs0 ++ acc)) si.wd hl2)
      have gl := si.wd.gh.back hl2
      exact d.nx ys _ _ _ rr ((r.step s2).setQ ⟨l, _, rfl, upd_same, (e3.imp fun _ _ h => h.up s2.gg).app (hda.imp fun _ _ h => h.up (Ex.new gl))⟩ hlt) s2.gg⟩
/-- return max(x, key=len), x of new lists: new to the caller -/
theorem JS.retMaxLL (B : Blt T) (i : Nat) {x : Str} {xp kp : Pos} {ea : α → PyData} [EncF ea] {xss : List (List α)} (hs : S[i]? = some (.q (LL T.K ea xss))) (hg : F.glo "max" = true := by kernel_rfl) (hg2 : F.glo "len" = true := by kernel_rfl) (hv : F.vis i x = true := by kernel_rfl)
    (he : ∀ env, backTo p2 (starEach [.Name x xp] env) = (false, eval (.Name x xp) env) :: backTo p2 (starEach [] env) := by exact fun _ => rfl) : JS T F (.Return (some (.Call (.Name "max" p) [.Name x xp] [⟨some "key", .Name "len" p3, kp⟩] p2)) pos) S (fun t : List α => .l (t.map ea)) sb sn (do let t ← maxLenW xss; pure (.rt t)) :=
  ⟨fun X M Gs H0 σ G H C r hl P hp D d => by
    obtain ⟨q1, q2, q3, q4⟩ := C.vis hv
    obtain ⟨g1, g2⟩ := C.glo hg
    obtain ⟨g3, g4⟩ := C.glo hg2
    obtain ⟨v0, e0, p0, vs0, e1, e2, e3⟩ := r.sl i _ hs
    subst e1
    have hd0 : DpAll T.K G vs0 (xss.map (eL ea)) := NewL.dps e3
    refine s_ret (toE (pe_maxLen C.calm g1 (by rw [C.mg]; exact B.max) g3 (by rw [C.mg]; exact B.len) (pa_cons (pe_var q1 q2 q3 q4) pa_nil (star_one rfl)) (he _) (back_ok rfl)) ⟨_, e0, _, rfl, p0, vs0, xss.map (eL ea), rfl, .inl (.inl (r.wd.gh _ _ e2)), C.K ▸ r.wd.gh.dps hd0, by rw [List.length_map]; exact hp.1, fun dd hd => ?_, fun k u dd hu hd best => ?_⟩)
    · obtain ⟨y, _, rfl⟩ := List.mem_map.mp hd; exact .inr ⟨_, rfl⟩
    · obtain ⟨t, ht, rfl⟩ := map_get hd
      have ln : ∀ l : List α, lenD (eL ea l) = (l.length : Nat) := fun l => by simp [lenD, eL]
      have pt := hp.2 k t ht fun j y hy => by
        have := best j (eL ea y) (by rw [List.getElem?_map, hy]; rfl)
        rw [ln, ln] at this
        exact ⟨by omega, fun z => by have := this.2 z; omega⟩
      obtain ⟨u', hu', q, ws, a1, a2, a3, a4⟩ := e3.get ht
      rw [hu] at hu'; cases hu'
      subst a1
      -- forget the list: it is the caller's
      let G3 : Hp := fun a => if a = q then none else G a
      have e32 : Ex G3 G := fun a o e => by
        by_cases z : a = q
        · rw [show G3 a = none from if_pos z] at e; cases e
        · rw [show G3 a = G a from if_neg z] at e; exact e
      have gq : Gs q = none := r.stp.w0.gh.back a2
      have w3 : Wd M G3 H := by
        refine ⟨e32.trans r.wd.gh, fun a m => ?_, r.wd.st⟩
        cases z : G3 a with
        | none => rfl
        | some o => have := e32 a o z; rw [r.wd.off a m] at this; cases this
      have st : Stp M Gs H0 G3 H := by
        refine ⟨r.stp.w0, fun a o e => ?_, w3, r.stp.hh, fun a b1 b2 => ?_⟩
        · have : a ≠ q := fun z => by subst z; rw [gq] at e; cases e
          rw [show G3 a = G a from if_neg this]; exact r.stp.gg a o e
        · have : a ≠ q := fun z => b2 (if_pos z)
          rw [show G3 a = G a from if_neg this] at b2
          exact r.stp.fr a b1 b2
      have n3 : ∀ a, G3 a = none → G a = none ∨ ∃ vs, G a = some (.lst vs) := fun a z => by
        by_cases y : a = q
        · subst y; exact .inr ⟨ws, a3⟩
        · rw [show G3 a = G a from if_neg y] at z; exact .inl z
      have go : ∀ (t : List α) (vs : List V), DpAll T.K G vs (t.map ea) → DpAll T.K G3 vs (t.map ea) := by
        intro t
        induction t with
        | nil => intro vs h; cases h; exact .nil
        | cons x t ih =>
          intro vs h
          cases h with
          | cons h1 h2 => exact .cons (flat_less n3 e32 _ _ (EncF.fl x) h1) (ih _ h2)
      exact d.rt t _ G3 H pt st ⟨q, ws, rfl, a2, if_pos rfl, r.wd.gh _ _ a3, go t ws a4⟩⟩
end
end DW
namespace DW
open PySem L2 PL PLS
/-- encoders whose data can be keys, with the key's depth -/
class EncN (e : α → PyData) (n : outParam Nat) : Prop where
  ok : ∀ t, keyOk (e t) = true
  nu : ∀ t, numK (kn (e t)) = true
  dp : ∀ t, (kn (e t)).depth ≤ n
  inj : ∀ s t, kn (e s) = kn (e t) → s = t
theorem keyOks_of {xs : List PyData} (h : ∀ d ∈ xs, keyOk d = true) : keyOks xs = true := by
  rw [keyOks_all]; exact List.all_eq_true.mpr h
theorem numKs_of : ∀ {ks : List NestedKey}, (∀ k ∈ ks, numK k = true) → numKs ks = true
  | [], _ => by rw [numKs]
  | k :: ks, h => by rw [numKs, h k List.mem_cons_self, numKs_of fun k hk => h k (List.mem_cons_of_mem _ hk)]; rfl
theorem kdep_of {n : Nat} : ∀ {ks : List NestedKey}, (∀ k ∈ ks, k.depth ≤ n) → NestedKey.depthAll ks ≤ n
  | [], _ => by rw [NestedKey.depthAll]; omega
  | k :: ks, h => by
    rw [NestedKey.depthAll]
    have h1 := h k List.mem_cons_self
    have h2 := kdep_of (ks := ks) fun k hk => h k (List.mem_cons_of_mem _ hk)
    omega
instance : EncN eI 0 where
  ok t := by show keyOk (.int t) = true; rw [keyOk]
  nu t := by show numK (kn (.int t)) = true; rw [kn, numK]
  dp t := by show (kn (.int t)).depth ≤ 0; rw [kn, NestedKey.depth]; all_goals first | omega | (intros; simp_all)
  inj s t h := by have h : kn (.int s) = kn (.int t) := h; rw [kn, kn] at h; injection h
theorem map_inj_of {f : α → β} (h : ∀ a b, f a = f b → a = b) : ∀ {xs ys : List α}, xs.map f = ys.map f → xs = ys
  | [], [], _ => rfl
  | x :: xs, y :: ys, e => by
    rw [List.map_cons, List.map_cons] at e
    injection e with e1 e2
    rw [h _ _ e1, map_inj_of h e2]
  | [], _ :: _, e => by cases e
  | _ :: _, [], e => by cases e
theorem knT {e : α → PyData} (xs : List α) : kn (.tuple (xs.map e)) = .tup (xs.map fun x => kn (e x)) := by
  rw [kn, kns_map, List.map_map]; rfl
instance {e : α → PyData} {n : Nat} [h : EncN e n] : EncN (eT e) (n + 1) where
  ok t := by
    show keyOk (.tuple (t.map e)) = true
    rw [keyOk]; exact keyOks_of fun d hd => by obtain ⟨x, _, rfl⟩ := List.mem_map.mp hd; exact h.ok x
  nu t := by
    show numK (kn (.tuple (t.map e))) = true
    rw [knT, numK]; exact numKs_of fun d hd => by obtain ⟨x, _, rfl⟩ := List.mem_map.mp hd; exact h.nu x
  dp t := by
    show (kn (.tuple (t.map e))).depth ≤ _
    rw [knT, NestedKey.depth]
    have := kdep_of (ks := t.map fun x => kn (e x)) (n := n) fun d hd => by obtain ⟨x, _, rfl⟩ := List.mem_map.mp hd; exact h.dp x
    omega
  inj s t hst := by
    have hst : kn (.tuple (s.map e)) = kn (.tuple (t.map e)) := hst
    rw [knT, knT] at hst
    injection hst with hst
    exact map_inj_of h.inj hst
instance {a : α → PyData} {b : β → PyData} {n m : Nat} [h : EncN a n] [k : EncN b m] : EncN (eP a b) (max n m + 1) where
  ok t := by
    show keyOk (.tuple [a t.1, b t.2]) = true
    rw [keyOk]; exact keyOks_of fun d hd => by simp at hd; rcases hd with rfl | rfl; exact h.ok _; exact k.ok _
  nu t := by
    show numK (kn (.tuple [a t.1, b t.2])) = true
    rw [kn, kns, kns, kns, numK]; exact numKs_of fun d hd => by simp at hd; rcases hd with rfl | rfl; exact h.nu _; exact k.nu _
  dp t := by
    show (kn (.tuple [a t.1, b t.2])).depth ≤ _
    rw [kn, kns, kns, kns, NestedKey.depth]
    have := kdep_of (ks := [kn (a t.1), kn (b t.2)]) (n := max n m) fun d hd => by
      simp at hd
      have := h.dp t.1; have := k.dp t.2
      rcases hd with rfl | rfl <;> omega
    omega
  inj s t hst := by
    have hst : kn (.tuple [a s.1, b s.2]) = kn (.tuple [a t.1, b t.2]) := hst
    rw [kn, kn, kns, kns, kns, kns, kns, kns] at hst
    injection hst with hst
    injection hst with h1 h2
    injection h2 with h2 _
    exact Prod.ext (h.inj _ _ h1) (k.inj _ _ h2)
theorem encK_of {e : α → PyData} {n : Nat} (h : EncN e n) (hn : n ≤ 8) (ht : ∀ t, ∃ xs, e t = .tuple xs) : EncK e :=
  ⟨fun t => ⟨h.ok t, h.nu t, Nat.le_trans (h.dp t) hn, ht t⟩, h.inj⟩
instance : EncK (eT eI) := encK_of inferInstance (by decide) fun _ => ⟨_, rfl⟩
instance : EncK (eT (eT eI)) := encK_of inferInstance (by decide) fun _ => ⟨_, rfl⟩
instance : EncK (eP eI eI) := encK_of inferInstance (by decide) fun _ => ⟨_, rfl⟩
instance : EncK (eP eI (eT eI)) := encK_of inferInstance (by decide) fun _ => ⟨_, rfl⟩
instance : EncK (eP (eT eI) (eT eI)) := encK_of inferInstance (by decide) fun _ => ⟨_, rfl⟩
end DW
namespace DW
open PySem L2 PL
/-! the law's comparing, for any data -/
def Plain : Nat → PyData → Prop
  | _, .none => True
  | _, .bool _ => True
  | _, .int _ => True
  | _, .str _ => True
  | n + 1, .list xs => xs.length < 100000 ∧ ∀ x ∈ xs, Plain n x
  | n + 1, .tuple xs => xs.length < 100000 ∧ ∀ x ∈ xs, Plain n x
  | _, _ => False
def R_same (n : Nat) : List D → D → Prop := fun ds r => ∃ g d b, ds = [g, d] ∧ Plain n g ∧ Plain n d ∧ r = .bool b ∧ (b = true ↔ g = d)
theorem atI_get {ds : List PyData} {i : Nat} (h : i < ds.length) : atI ds (i : Int) = some ds[i] := by
  unfold atI ixN
  rw [if_pos (by omega), if_pos (by omega)]
  simp [h]
theorem isD_none {g : PyData} : (isD g .none = true) ↔ g = .none := by cases g <;> simp [isD]
theorem isD_bool {g : PyData} {b : Bool} : (isD g (.bool b) = true) ↔ g = .bool b := by cases g <;> simp [isD]
/-- equal so far -/
def Upto (i : Nat) (xs ys : List PyData) : Prop := ∀ j, j < i → xs[j]? = ys[j]?
theorem upto_all {xs ys : List PyData} (hl : xs.length = ys.length) (h : Upto ys.length xs ys) : xs = ys := by
  refine List.ext_getElem? fun j => ?_
  by_cases hj : j < ys.length
  · exact h j hj
  · rw [List.getElem?_eq_none (by omega), List.getElem?_eq_none (by omega)]
section
variable {P : Program} {w : World} {K : PySem.W.Frag} {mg : Str → Option Value} {base : Heap} {f : Addr} {fd : FuncData}
open Classical in
theorem same_step (n : Nat) (T : TD K mg "_law_same" s_law_same ["got", "due"] f fd) (mi : mg "isinstance" = none) (m1 : mg "int" = none) (m2 : mg "bool" = none) (m3 : mg "str" = none) (m4 : mg "list" = none) (m5 : mg "tuple" = none) (ml : mg "len" = none) (mr : mg "range" = none)
    (ih : ∀ m, n = m + 1 → DF P w K mg base "_law_same" (m + 1) ["got", "due"] (SpR K (R_same m))) : DF P w K mg base "_law_same" (n + 1) ["got", "due"] (SpR K (R_same n)) := by
  refine df_R T sc_law_same (fun ds d ⟨_, _, _, e, _⟩ => by rw [e]; rfl) (fun cdv A outs sh H E G vs ds r hr gh hd R => ?_)
  obtain ⟨g, d, b, rfl, pg, pd, rfl, hb⟩ := R
  obtain ⟨v1, v2, rfl, h1, h2⟩ := dps2 hd
  have fin : ∀ {c : Bool}, (c = true ↔ g = d) → PyData.bool c = .bool b := fun {c} h => by
    rcases Bool.eq_false_or_eq_true c with e | e <;> rcases Bool.eq_false_or_eq_true b with e' | e' <;> subst e <;> subst e' <;> simp_all
  have no : g ≠ d → PyData.bool false = .bool b := fun h => fin ⟨fun z => (nomatch z), fun z => (h z).elim⟩
  refine b_at rfl ?_
  cases d with
  | dict kvs => cases n <;> exact pd.elim
  | none =>
    refine b_cons (s_if (Wd.ex0 gh) (t_isN (e_var 1 h2)) (fun G1 H1 s1 e => ?_) (fun G1 H1 s1 e => nomatch e))
    rw [← fin isD_none]
    exact b_one (ret_d s1 (e_isN (e_var 0 (s1.gg.dp h1))))
  | bool c =>
    refine b_cons (s_if (Wd.ex0 gh) (t_isN (e_var 1 h2)) (fun G1 H1 s1 e => nomatch e) (fun G1 H1 s1 _ => b_nil ?_))
    rw [← fin isD_bool]
    cases c with
    | true =>
      refine b_cons (s_if s1.wd (t_cmp op_isC rb_isB (e_var 1 (s1.gg.dp h2)) e_bl) (fun G2 H2 s2 e => ?_) (fun G2 H2 s2 e => nomatch e))
      have s02 := s1.trans s2
      exact b_one (ret_d s02 (e_cmp op_isC rb_isB (e_var 0 (s02.gg.dp h1)) e_bl))
    | false =>
      refine b_cons (s_if s1.wd (t_cmp op_isC rb_isB (e_var 1 (s1.gg.dp h2)) e_bl) (fun G2 H2 s2 e => nomatch e) (fun G2 H2 s2 _ => b_nil ?_))
      have s02 := s1.trans s2
      refine b_cons (s_if s02.wd (t_cmp op_isC rb_isB (e_var 1 (s02.gg.dp h2)) e_bl) (fun G3 H3 s3 e => ?_) (fun G3 H3 s3 e => nomatch e))
      have s03 := s02.trans s3
      exact b_one (ret_d s03 (e_cmp op_isC rb_isB (e_var 0 (s03.gg.dp h1)) e_bl))
  | int i =>
    refine b_cons (s_if (Wd.ex0 gh) (t_isN (e_var 1 h2)) (fun G1 H1 s1 e => nomatch e) (fun G1 H1 s1 _ => b_nil ?_))
    refine b_cons (s_if s1.wd (t_cmp op_isC rb_isB (e_var 1 (s1.gg.dp h2)) e_bl) (fun G2 H2 s2 e => nomatch e) (fun G2 H2 s2 _ => b_nil ?_))
    have s02 := s1.trans s2
    refine b_cons (s_if s02.wd (t_cmp op_isC rb_isB (e_var 1 (s02.gg.dp h2)) e_bl) (fun G3 H3 s3 e => nomatch e) (fun G3 H3 s3 _ => b_nil ?_))
    have s03 := s02.trans s3
    refine b_cons (s_if s03.wd (t_val (e_isi (b := true) mi m1 (e_var 1 (s03.gg.dp h2)) (T := "int") (by decide +kernel) (by rfl))) (fun G4 H4 s4 e => ?_) (fun G4 H4 s4 e => nomatch e))
    have s04 := s03.trans s4
    cases g with
    | dict kvs => cases n <;> exact pg.elim
    | int j =>
      rw [← fin (c := true && (!false && decide (j = i))) (by simp)]
      exact b_one (ret_d s04 (v_and (e_isi (b := true) mi m1 (e_var 0 (s04.gg.dp h1)) (T := "int") (by decide +kernel) (by rfl)) (fun _ => v_and (v_not (e_isi (b := false) mi m2 (e_var 0 (s04.gg.dp h1)) (T := "bool") (by decide +kernel) (by rfl))) (fun _ => v_one (e_cmp op_eq rb_eq (e_var 0 (s04.gg.dp h1)) (e_var 1 (s04.gg.dp h2)))))))
    | bool c =>
      rw [← no (fun z => nomatch z), show PyData.bool false = .bool (true && (!true && true)) from rfl]
      exact b_one (ret_d s04 (v_and (e_isi (b := true) mi m1 (e_var 0 (s04.gg.dp h1)) (T := "int") (by decide +kernel) (by rfl)) (fun _ => v_and (v_not (e_isi (b := true) mi m2 (e_var 0 (s04.gg.dp h1)) (T := "bool") (by decide +kernel) (by rfl))) (fun z => nomatch z))))
    | _ =>
      rw [← no (fun z => nomatch z), show PyData.bool false = .bool (false && true) from rfl]
      exact b_one (ret_d s04 (v_and (e_isi (b := false) mi m1 (e_var 0 (s04.gg.dp h1)) (T := "int") (by decide +kernel) (by rfl)) (fun z => nomatch z)))
  | str x =>
    refine b_cons (s_if (Wd.ex0 gh) (t_isN (e_var 1 h2)) (fun G1 H1 s1 e => nomatch e) (fun G1 H1 s1 _ => b_nil ?_))
    refine b_cons (s_if s1.wd (t_cmp op_isC rb_isB (e_var 1 (s1.gg.dp h2)) e_bl) (fun G2 H2 s2 e => nomatch e) (fun G2 H2 s2 _ => b_nil ?_))
    have s02 := s1.trans s2
    refine b_cons (s_if s02.wd (t_cmp op_isC rb_isB (e_var 1 (s02.gg.dp h2)) e_bl) (fun G3 H3 s3 e => nomatch e) (fun G3 H3 s3 _ => b_nil ?_))
    have s03 := s02.trans s3
    refine b_cons (s_if s03.wd (t_val (e_isi (b := false) mi m1 (e_var 1 (s03.gg.dp h2)) (T := "int") (by decide +kernel) (by rfl))) (fun G4 H4 s4 e => nomatch e) (fun G4 H4 s4 e => b_nil ?_))
    have s04 := s03.trans s4
    refine b_cons (s_if s04.wd (t_val (e_isi (b := true) mi m3 (e_var 1 (s04.gg.dp h2)) (T := "str") (by decide +kernel) (by rfl))) (fun G5 H5 s5 e => ?_) (fun G5 H5 s5 e => nomatch e))
    have s05 := s04.trans s5
    cases g with
    | dict kvs => cases n <;> exact pg.elim
    | str y =>
      rw [← fin (c := true && decide (y = x)) (by simp)]
      exact b_one (ret_d s05 (v_and (e_isi (b := true) mi m3 (e_var 0 (s05.gg.dp h1)) (T := "str") (by decide +kernel) (by rfl)) (fun _ => v_one (e_cmp op_eq rb_eqS (e_var 0 (s05.gg.dp h1)) (e_var 1 (s05.gg.dp h2))))))
    | _ =>
      rw [← no (fun z => nomatch z), show PyData.bool false = .bool (false && true) from rfl]
      exact b_one (ret_d s05 (v_and (e_isi (b := false) mi m3 (e_var 0 (s05.gg.dp h1)) (T := "str") (by decide +kernel) (by rfl)) (fun z => nomatch z)))
  | list ys =>
    cases n with
    | zero => exact pd.elim
    | succ m =>
    have F := ih m rfl
    obtain ⟨ly, py⟩ := pd
    refine b_cons (s_if (Wd.ex0 gh) (t_isN (e_var 1 h2)) (fun G1 H1 s1 e => nomatch e) (fun G1 H1 s1 _ => b_nil ?_))
    refine b_cons (s_if s1.wd (t_cmp op_isC rb_isB (e_var 1 (s1.gg.dp h2)) e_bl) (fun G2 H2 s2 e => nomatch e) (fun G2 H2 s2 _ => b_nil ?_))
    have s02 := s1.trans s2
    refine b_cons (s_if s02.wd (t_cmp op_isC rb_isB (e_var 1 (s02.gg.dp h2)) e_bl) (fun G3 H3 s3 e => nomatch e) (fun G3 H3 s3 _ => b_nil ?_))
    have s03 := s02.trans s3
    refine b_cons (s_if s03.wd (t_val (e_isi (b := false) mi m1 (e_var 1 (s03.gg.dp h2)) (T := "int") (by decide +kernel) (by rfl))) (fun G4 H4 s4 e => nomatch e) (fun G4 H4 s4 e => b_nil ?_))
    have s04 := s03.trans s4
    refine b_cons (s_if s04.wd (t_val (e_isi (b := false) mi m3 (e_var 1 (s04.gg.dp h2)) (T := "str") (by decide +kernel) (by rfl))) (fun G5 H5 s5 e => nomatch e) (fun G5 H5 s5 e => b_nil ?_))
    have s05 := s04.trans s5
    cases g with
    | dict kvs => exact pg.elim
    | list xs =>
      obtain ⟨lx, px⟩ := pg
      refine b_cons (s_if s05.wd (ETw.t (w_ord (s := true && !true) (t := false) (ETw.t (w_andd (t_val (e_isi (b := true) mi m4 (e_var 1 (s05.gg.dp h2)) (T := "list") (by decide +kernel) (by rfl))) (fun _ => w_and1 (t_notd (t_val (e_isi (b := true) mi m4 (e_var 0 (s05.gg.dp h1)) (T := "list") (by decide +kernel) (by rfl))))))) (fun _ => w_or1 (ETw.t (w_andd (s := false) (t := true) (t_val (e_isi (b := false) mi m5 (e_var 1 (s05.gg.dp h2)) (T := "tuple") (by decide +kernel) (by rfl))) (fun z => nomatch z)))))) (fun G6 H6 s6 e => nomatch e) (fun G6 H6 s6 e => b_nil ?_))
      have s06 := s05.trans s6
      refine b_cons (s_if s06.wd (t_cmp op_ne rb_ne (e_lenL ml (e_var 0 (s06.gg.dp h1))) (e_lenL ml (e_var 1 (s06.gg.dp h2)))) (fun G7 H7 s7 e => ?_) (fun G7 H7 s7 e => b_nil ?_))
      · rw [← no (fun z => by cases z; simp at e)]
        exact b_one (ret_d (s06.trans s7) e_bl)
      have hl : xs.length = ys.length := by simp at e; omega
      have s07 := s06.trans s7
      refine b_cons (s_forR (n := ys.length) s07.wd (e_lenL ml (e_var 1 (s07.gg.dp h2))) ly rfl mr (pg_name (i := 2) sc_law_same.nd rfl (Or.inl rfl)) (fun G8 H8 s8 => ?_))
      refine ⟨fun i σ' H' => ∃ Gi a, Stp M0 G H Gi H' ∧ σ' = [some v1, some v2, a] ∧ Upto i xs ys, ⟨G8, _, s07.trans s8, rfl, fun j hj => absurd hj (by omega)⟩, fun i σ' H' hi ⟨Gi, a, st, hσ, hu⟩ => ?_, fun σ' H' ⟨Gi, a, st, hσ, hu⟩ => ?_⟩
      · subst hσ
        show rdB _ _ _ [some v1, some v2, some (.int i)] H'
        refine b_one (s_if st.wd (t_notd (t_val (e_calld (d := .bool (decide (xs[i] = ys[i]))) F (hr.mono (by omega)) (a_cons (e_ixL (e_var 0 (st.gg.dp h1)) (e_var 2 (.int _)) (atI_get (by omega))) (a_cons (e_ixL (e_var 1 (st.gg.dp h2)) (e_var 2 (.int _)) (atI_get hi)) a_nil)) ⟨_, _, _, rfl, px _ (List.getElem_mem _), py _ (List.getElem_mem _), rfl, by simp⟩))) (fun G9 H9 s9 e => ?_) (fun G9 H9 s9 e => b_nil ⟨G9, _, st.trans s9, rfl, fun j hj => ?_⟩))
        · rw [← no (fun z => by cases z; simp at e)]
          exact b_one (s_ret (e_bl G9 H9 (Ex.refl _) s9.wd _ fun v G2 H2 s2 hv => ⟨G2, (st.trans s9).trans s2, hv⟩))
        · by_cases z : j < i
          · exact hu j z
          · have : j = i := by omega
            subst this
            have : xs[j] = ys[j] := by simpa using e
            rw [List.getElem?_eq_getElem (by omega), List.getElem?_eq_getElem hi, this]
      · subst hσ
        rw [← fin (c := true) ⟨fun _ => by rw [upto_all hl hu], fun _ => rfl⟩]
        exact b_one (ret_d st e_bl)
    | _ =>
      rw [← no (fun z => nomatch z)]
      refine b_cons (s_if s05.wd (ETw.t (w_ord (s := true && !false) (t := true) (ETw.t (w_andd (t_val (e_isi (b := true) mi m4 (e_var 1 (s05.gg.dp h2)) (T := "list") (by decide +kernel) (by rfl))) (fun _ => w_and1 (t_notd (t_val (e_isi (b := false) mi m4 (e_var 0 (s05.gg.dp h1)) (T := "list") (by decide +kernel) (by rfl))))))) (fun z => nomatch z))) (fun G6 H6 s6 e => ?_) (fun G6 H6 s6 e => nomatch e))
      exact b_one (ret_d (s05.trans s6) e_bl)
  | tuple ys =>
    cases n with
    | zero => exact pd.elim
    | succ m =>
    have F := ih m rfl
    obtain ⟨ly, py⟩ := pd
    refine b_cons (s_if (Wd.ex0 gh) (t_isN (e_var 1 h2)) (fun G1 H1 s1 e => nomatch e) (fun G1 H1 s1 _ => b_nil ?_))
    refine b_cons (s_if s1.wd (t_cmp op_isC rb_isB (e_var 1 (s1.gg.dp h2)) e_bl) (fun G2 H2 s2 e => nomatch e) (fun G2 H2 s2 _ => b_nil ?_))
    have s02 := s1.trans s2
    refine b_cons (s_if s02.wd (t_cmp op_isC rb_isB (e_var 1 (s02.gg.dp h2)) e_bl) (fun G3 H3 s3 e => nomatch e) (fun G3 H3 s3 _ => b_nil ?_))
    have s03 := s02.trans s3
    refine b_cons (s_if s03.wd (t_val (e_isi (b := false) mi m1 (e_var 1 (s03.gg.dp h2)) (T := "int") (by decide +kernel) (by rfl))) (fun G4 H4 s4 e => nomatch e) (fun G4 H4 s4 e => b_nil ?_))
    have s04 := s03.trans s4
    refine b_cons (s_if s04.wd (t_val (e_isi (b := false) mi m3 (e_var 1 (s04.gg.dp h2)) (T := "str") (by decide +kernel) (by rfl))) (fun G5 H5 s5 e => nomatch e) (fun G5 H5 s5 e => b_nil ?_))
    have s05 := s04.trans s5
    cases g with
    | dict kvs => exact pg.elim
    | tuple xs =>
      obtain ⟨lx, px⟩ := pg
      refine b_cons (s_if s05.wd (ETw.t (w_ord (s := false && true) (t := true && !true) (ETw.t (w_andd (t_val (e_isi (b := false) mi m4 (e_var 1 (s05.gg.dp h2)) (T := "list") (by decide +kernel) (by rfl))) (fun z => nomatch z))) (fun _ => w_or1 (ETw.t (w_andd (t_val (e_isi (b := true) mi m5 (e_var 1 (s05.gg.dp h2)) (T := "tuple") (by decide +kernel) (by rfl))) (fun _ => w_and1 (t_notd (t_val (e_isi (b := true) mi m5 (e_var 0 (s05.gg.dp h1)) (T := "tuple") (by decide +kernel) (by rfl)))))))))) (fun G6 H6 s6 e => nomatch e) (fun G6 H6 s6 e => b_nil ?_))
      have s06 := s05.trans s6
      refine b_cons (s_if s06.wd (t_cmp op_ne rb_ne (e_lenT ml (e_var 0 (s06.gg.dp h1))) (e_lenT ml (e_var 1 (s06.gg.dp h2)))) (fun G7 H7 s7 e => ?_) (fun G7 H7 s7 e => b_nil ?_))
      · rw [← no (fun z => by cases z; simp at e)]
        exact b_one (ret_d (s06.trans s7) e_bl)
      have hl : xs.length = ys.length := by simp at e; omega
      have s07 := s06.trans s7
      refine b_cons (s_forR (n := ys.length) s07.wd (e_lenT ml (e_var 1 (s07.gg.dp h2))) ly rfl mr (pg_name (i := 2) sc_law_same.nd rfl (Or.inl rfl)) (fun G8 H8 s8 => ?_))
      refine ⟨fun i σ' H' => ∃ Gi a, Stp M0 G H Gi H' ∧ σ' = [some v1, some v2, a] ∧ Upto i xs ys, ⟨G8, _, s07.trans s8, rfl, fun j hj => absurd hj (by omega)⟩, fun i σ' H' hi ⟨Gi, a, st, hσ, hu⟩ => ?_, fun σ' H' ⟨Gi, a, st, hσ, hu⟩ => ?_⟩
      · subst hσ
        show rdB _ _ _ [some v1, some v2, some (.int i)] H'
        refine b_one (s_if st.wd (t_notd (t_val (e_calld (d := .bool (decide (xs[i] = ys[i]))) F (hr.mono (by omega)) (a_cons (e_ixT (e_var 0 (st.gg.dp h1)) (e_var 2 (.int _)) (atI_get (by omega))) (a_cons (e_ixT (e_var 1 (st.gg.dp h2)) (e_var 2 (.int _)) (atI_get hi)) a_nil)) ⟨_, _, _, rfl, px _ (List.getElem_mem _), py _ (List.getElem_mem _), rfl, by simp⟩))) (fun G9 H9 s9 e => ?_) (fun G9 H9 s9 e => b_nil ⟨G9, _, st.trans s9, rfl, fun j hj => ?_⟩))
        · rw [← no (fun z => by cases z; simp at e)]
          exact b_one (s_ret (e_bl G9 H9 (Ex.refl _) s9.wd _ fun v G2 H2 s2 hv => ⟨G2, (st.trans s9).trans s2, hv⟩))
        · by_cases z : j < i
          · exact hu j z
          · have : j = i := by omega
            subst this
            have : xs[j] = ys[j] := by simpa using e
            rw [List.getElem?_eq_getElem (by omega), List.getElem?_eq_getElem hi, this]
      · subst hσ
        rw [← fin (c := true) ⟨fun _ => by rw [upto_all hl hu], fun _ => rfl⟩]
        exact b_one (ret_d st e_bl)
    | _ =>
      rw [← no (fun z => nomatch z)]
      refine b_cons (s_if s05.wd (ETw.t (w_ord (s := false && true) (t := true && !false) (ETw.t (w_andd (t_val (e_isi (b := false) mi m4 (e_var 1 (s05.gg.dp h2)) (T := "list") (by decide +kernel) (by rfl))) (fun z => nomatch z))) (fun _ => w_or1 (ETw.t (w_andd (t_val (e_isi (b := true) mi m5 (e_var 1 (s05.gg.dp h2)) (T := "tuple") (by decide +kernel) (by rfl))) (fun _ => w_and1 (t_notd (t_val (e_isi (b := false) mi m5 (e_var 0 (s05.gg.dp h1)) (T := "tuple") (by decide +kernel) (by rfl)))))))))) (fun G6 H6 s6 e => ?_) (fun G6 H6 s6 e => nomatch e))
      exact b_one (ret_d (s05.trans s6) e_bl)
theorem same_all (T : TD K mg "_law_same" s_law_same ["got", "due"] f fd) (mi : mg "isinstance" = none) (m1 : mg "int" = none) (m2 : mg "bool" = none) (m3 : mg "str" = none) (m4 : mg "list" = none) (m5 : mg "tuple" = none) (ml : mg "len" = none) (mr : mg "range" = none) : ∀ n, DF P w K mg base "_law_same" (n + 1) ["got", "due"] (SpR K (R_same n))
  | 0 => same_step 0 T mi m1 m2 m3 m4 m5 ml mr fun m e => nomatch e
  | n + 1 => same_step (n + 1) T mi m1 m2 m3 m4 m5 ml mr fun m e => by cases e; exact same_all T mi m1 m2 m3 m4 m5 ml mr n
end
def m_law_same {α : Type} [DecidableEq α] (e : α → PyData) (n : Nat) (a : α × α × Unit) : W Bool := do gd (Plain n (e a.1) ∧ Plain n (e a.2.1)); pure (decide (a.1 = a.2.1))
/-- what is compared, twice the same kind -/
abbrev FD_same (T : Tx) {α : Type} [DecidableEq α] (e : α → PyData) (n : Nat) : Prop := FD T "_law_same" (n + 1) ["got", "due"] (fun a : α × α × Unit => [.d (e a.1), .d (e a.2.1)]) (fun r : Bool => .d (eB r)) (m_law_same e n)
/-- a promise of data as one of the layer -/
theorem FD.of_R {T : Tx} {x : Str} {k : Nat} {ps : List Str} {R : List D → D → Prop} {α ρ : Type} {ea : α → List PyData} {er : ρ → PyData} {m : α → W ρ} (F : DF T.P T.w T.K T.mg T.base x k ps (SpR T.K R)) (h : ∀ a (P : ρ → Prop), m a P → ∃ r, R (ea a) (er r) ∧ P r) : FD T x k ps (fun a => (ea a).map .d) (fun r => .d (er r)) m := by
  obtain ⟨f, fd, ok, g, kp, b⟩ := F.ex
  refine ⟨f, fd, ok.imp fun vs H Q E ⟨M, G, a, P, wd, mi, hv, hm, q⟩ => ?_, g, kp, b⟩
  obtain ⟨r, hr, pr⟩ := h a P hm
  have hd : DpAll T.K G vs (ea a) := by
    have : ∀ {vs : List V} {xs : List PyData}, VpAll T M G vs (xs.map .d) → DpAll T.K G vs xs := by
      intro vs xs
      induction xs generalizing vs with
      | nil => intro h; cases h; exact .nil
      | cons x xs ih => intro h; cases h with | cons h1 h2 => exact .cons h1 (ih h2)
    exact this hv
  exact ⟨G, ea a, er r, wd.gh, hd, hr, fun v G' H' s hv => q v r G' H' (s.lift wd) hv pr⟩
theorem fd_same {T : Tx} (B : Blt T) (F : ∀ n, DF T.P T.w T.K T.mg T.base "_law_same" (n + 1) ["got", "due"] (SpR T.K (R_same n))) {α : Type} [DecidableEq α] {e : α → PyData} (hi : ∀ x y, e x = e y → x = y) (n : Nat) : FD_same T e n :=
  FD.of_R (ea := fun a : α × α × Unit => [e a.1, e a.2.1]) (er := eB) (F n) fun a P hp => ⟨decide (a.1 = a.2.1), ⟨_, _, _, rfl, hp.1.1, hp.1.2, rfl, by simp; exact ⟨fun z => by rw [z], hi _ _⟩⟩, hp.2⟩
/-- a draw -/
def m_law_draw (a : Int × Unit) : W Int := drw a.1
abbrev FD_draw (T : Tx) : Prop := FD T "_law_draw" 1 ["pool", "many"] (fun a : Int × Unit => [.p, .d (eI a.1)]) (fun r : Int => .d (eI r)) m_law_draw
theorem fd_draw_of {T : Tx} (F : DF T.P T.w T.K T.mg T.base "_law_draw" 1 ["pool", "many"] (SpP T.K R_draw P_draw)) : FD_draw T := by
  obtain ⟨f, fd, ok, g, kp, b⟩ := F.ex
  refine ⟨f, fd, ok.imp fun vs H Q E ⟨M, G, a, P, wd, mi, hv, hm, q⟩ => ?_, g, kp, b⟩
  cases hv with
  | cons h1 h2 =>
    cases h2 with
    | cons h2 h3 =>
      cases h3
      obtain ⟨p, c, hin, rfl⟩ := h1
      obtain ⟨⟨m1, m2⟩, hm⟩ := hm
      have h2 : Dp T.K G _ (.int a.1) := h2
      cases h2
      refine ⟨p, c, G, _, [.int a.1], rfl, hin.wd wd, .cons (.int _) .nil, ⟨a.1, rfl, m1, m2⟩, fun v d G' H' s hv ⟨many, k, e1, e2, k0, k1⟩ => ?_⟩
      subst e2
      injection e1 with e1; injection e1 with e1
      exact q v k G' H' (hin.st wd s) hv (hm k k0 (by omega))
end DW
namespace PL
open PySem L2 DW
theorem cut_map {α : Type} (f : α → D) (xs : List α) (n : Nat) : ∃ ys : List α, cutD (xs.map f) none (some (n : Int)) = ys.map f ∧ ys.length ≤ n := by
  refine ⟨xs.take n, ?_, by rw [List.length_take]; omega⟩
  unfold cutD
  rw [HT.sIx_none, HT.sIx_nat, List.drop_zero, Nat.sub_zero, List.map_take]
  rw [List.take_eq_take_iff]; omega
section
variable {P : Program} {w : World} {K : PySem.W.Frag} {mg : Str → Option Value} {base : Heap} {f : Addr} {fd : FuncData}
/-- the pool is made -/
def SpMk (K : PySem.W.Frag) : Sp := fun vs H Q _ => ∃ G v, ∃ ns : List Int, vs = [v] ∧ Ex G H ∧ Dp K G v (.list (ns.map .int)) ∧ ∀ p c cells s0 G' H', Stp M0 G H G' H' → H p = none → G' p = none → PoolAt H' p c cells 0 0 0 s0 → Q (.ref p) H'
theorem df_pool (T : TD K mg "_law_pool" s_law_pool ["script"] f fd) (ma : mg "abs" = none) (mi : mg "int" = none) (ms : mg "sum" = none) : DF P w K mg base "_law_pool" 1 ["script"] (SpMk K) := by
  refine ⟨f, fd, T.fn.ok sc_law_pool (fun vs H Q E ⟨_, _, _, e, _⟩ => by rw [e]; rfl) (fun cdv A outer sh H vs Q E hr h => ?_), T.g, T.fn.kp, T.b⟩
  obtain ⟨G, v, ns, rfl, gh, hv, q⟩ := h
  refine ⟨_, pbR _, ?_⟩
  show rdB (bd P w K mg base n_law_pool "_law_pool" s_law_pool f cdv A outer sh H E) _ _ _ _
  obtain ⟨ys, hy, hl⟩ := cut_map PyData.int ns 63
  refine b_at rfl ?_
  refine b_cons (s_setC 1 (P := fun ds => ∃ zs : List Int, ds = zs.map .int) (Wd.ex0 gh) ((c_L0 2 (fun n : Int => PyData.int (if n < 0 then -n else n)) sc_law_pool.nd (xs := ys) (enc := PyData.int) (by rw [← hy]; exact (l_slice (e_var 0 hv) o_none (o_some e_int)).d) (by omega) (fun y _ v G' x hv s H0 C cl fp => ?_)).imp fun ds e => ⟨ys.map fun n => if n < 0 then -n else n, by rw [e, List.map_map]; rfl⟩) (fun c vs ds G1 H1 st hc gc hlc hd ⟨cs, e⟩ => ?_))
  · exact EI.det (i_abs (P := (· = y)) ma (i_int mi (ED.i (e_var 2 hv))) (fun i e => by rw [e]))
  · subst e
    have e2 := dps_ints hd
    subst e2
    have w2 := st.wd.known (p := c) (fun z => z) hlc
    have kc : Dp K (upd G1 c (.lst (cs.map .int))) (.ref c) (.list (cs.map .int)) := .lst (.inl (.inl upd_same)) (dps_of_ints cs)
    have st' := st.know hc hlc
    refine b_one (s_ret (toE (pe_lst (paR _)) (toA (pa_cons (peR _) (paR _)) (r_var 1 rfl rfl (Or.inl rfl) (by decide) (by decide) _ _ ?_))))
    refine (a_cons e_int (a_cons e_int (a_cons e_int (a_cons (e_mod (EI.det (i_int mi (e_sum ms rfl (e_var 1 kc)).i)) e_int (by decide)) a_nil)))) _ _ (Ex.refl _) w2 _ fun us ds2 G3 H3 st3 h3 e3 => ?_
    subst e3
    obtain ⟨u1, u2, u3, u4, rfl, k1, k2, k3, k4⟩ := dps4 h3
    cases k1; cases k2; cases k3; cases k4
    refine ⟨sz (by simp), fun p hp => ?_⟩
    have hp1 : H p = none := st'.back (st3.back hp)
    exact q p c cs _ G3 _ ((st'.trans st3).trans (.laidN st3.wd hp)) hp1 (st3.wd.gh.back hp) ⟨upd_same, by rw [upd_ne (ne_of_none (st3.ex _ _ hlc) hp)]; exact st3.ex _ _ hlc⟩
end
def SpLaw (K : PySem.W.Frag) : Sp := fun vs H Q _ => ∃ (a : Addr) (ns : List Int), vs = [.ref a] ∧ SqL K H a (ns.map V.int) ∧ ∀ H', Q (.bl true) H'
end PL
namespace DW
open PySem L2 PL
/-- the slots of the law's own body, the pool made -/
def lawS (N : List Str) : List Sl := [.no, .p] ++ List.replicate (N.length - 2) .no
theorem law_entry {P : Program} {w : World} {K : PySem.W.Frag} {mg : Str → Option Value} {base : Heap} {f : Addr} {fd : FuncData} {k : Nat} {m : W (Fl Bool Empty Unit)} (T : Fun K "law" "law" s_law f fd) (F1 : DF P w K mg base "_law_pool" 1 ["script"] (SpMk K))
    (hb : JB ⟨P, w, K, mg, base, M0⟩ (Fr.def n_law s_law (k + 1)) ((defBody s_law).drop 1) (lawS n_law) (fun r : Bool => .d (eB r)) (nofun : Empty → List Sl) (fun _ : Unit => []) m) (hm : runW m (· = true)) : FnOk P w K mg base CX0 (k + 2) f fd ["script"] (SpLaw K) := by
  refine T.ok sc_law (fun vs H Q E ⟨_, _, e, _⟩ => by rw [e]; rfl) (fun cdv A outs sh H vs Q E hr h => ?_)
  obtain ⟨a, ns, rfl, hs, q⟩ := h
  have h1 : Dp K H (.ref a) (.list (ns.map .int)) := .lst hs (dps_of_ints ns)
  refine ⟨_, pbR _, ?_⟩
  show rdB (bd P w K mg base n_law "law" s_law f cdv A outs sh H E) _ _ _ _
  refine b_at rfl ?_
  obtain ⟨f1, fd1, ok1, gm1, kp1, b1⟩ := F1.ex
  refine b_cons (s_set 1 (toE (pe_call (X := bd P w K mg base n_law "law" s_law f cdv A outs sh H E) (x := "_law_pool") ok1 (hr.mono (by omega)) rfl gm1 kp1 b1 .nil pass0 (paR _) (by decide) (star_one rfl) (back_ok rfl)) ((a_cons (e_var 0 h1) a_nil) H H (Ex.refl _) (Wd.ex0 (Ex.refl _)) _ fun vs ds G1 H1 s1 hvs e => ?_)) sc_law.nd)
  subst e
  obtain ⟨v, rfl, hv⟩ := dps1 hvs
  refine ⟨G1, v, ns, by rw [List.append_nil], s1.wd.gh, hv, fun p c cells s0 Gp Hp0 sp hp gp pa => ?_⟩
  have wd : Wd (MP p c) Gp Hp0 := ⟨sp.wd.gh, fun x hx => by cases hx; exact gp, ⟨cells, 0, 0, 0, s0, pa⟩⟩
  clear sp hv s1 hvs
  have C : CxF ⟨P, w, K, mg, base, M0⟩ (Fr.def n_law s_law (k + 1)) (bd P w K mg base n_law "law" s_law f cdv A outs sh H E) := ⟨rfl, rfl, sc_law.nd, rfl, rfl, fun _ _ => rfl, hr, PassesOwn.never⟩
  have get : ∀ (i : Nat) (sl : Sl), (lawS n_law)[i]? = some sl → sl = .no ∨ (i = 1 ∧ sl = .p) := fun i sl h => by
    match i, h with
    | 0, h => exact .inl (Option.some.inj h).symm
    | 1, h => exact .inr ⟨rfl, (Option.some.inj h).symm⟩
    | i + 2, h =>
      unfold lawS at h
      rw [List.getElem?_append_right (by simp), List.getElem?_replicate] at h
      split at h
      · exact .inl (Option.some.inj h).symm
      · cases h
  refine hb.run _ (MP p c) Gp Hp0 _ Gp Hp0 C ⟨.refl wd, fun i sl h => ?_, fun i j xs ys n h1 h2 => ?_, MIn.zero _⟩ rfl _ hm _ ⟨fun _ _ _ _ z => z.elim, fun r v G' H' z s' hv => ?_, fun b => (nomatch b), fun b => (nomatch b)⟩
  · rcases get i sl h with rfl | ⟨rfl, rfl⟩
    · trivial
    · exact ⟨p, c, MIn.refl _, rfl⟩
  · rcases get i _ h1 with z | ⟨_, z⟩ <;> cases z
  · have z : r = true := z
    subst z
    have hv : Dp K G' v (.bool true) := hv
    cases hv
    exact q _
/-- comparing of any kind -/
def FS (T : Tx) : Prop := ∀ {α : Type} [DecidableEq α] (e : α → PyData) [EncQ e] (n : Nat), FD_same T e n
theorem EncQ.inj {α : Type} [DecidableEq α] {e : α → PyData} [h : EncQ e] (x y : α) (z : e x = e y) : x = y := by
  have h1 := h.eq x y
  rw [z, h.eq y y] at h1
  simpa using h1.symm
theorem fs_of {T : Tx} (B : Blt T) (F : ∀ n, DF T.P T.w T.K T.mg T.base "_law_same" (n + 1) ["got", "due"] (SpR T.K (R_same n))) : FS T := fun e h n => fd_same B F EncQ.inj n
abbrev FD_law_draw (T : Tx) : Prop := FD_draw T
end DW
namespace DW
open PySem L2 PL
/-! None where it never is; ends that are never reached -/
section
variable {T : Tx} {F : Fr} {S : List Sl} {α ρ β σ : Type} {e a : Expr} {pos : Pos}
theorem JX.mapO {enc : α → PyData} {w : W (List α)} (h : JE T F e S (eL enc) w) : JE T F e S (eL (eO enc)) (w >>= fun x => pure (x.map Option.some)) :=
  JX.map (fun x : List α => x.map Option.some) h fun t => by
    show PyData.list _ = .list _
    rw [List.map_map]; rfl
theorem JS.dead {st : Stmt} {er : ρ → XD} {sb : β → List Sl} {sn : σ → List Sl} {f : Unit → W (Fl ρ β σ)} : JS T F st S er sb sn (gd False >>= f) :=
  ⟨fun X M Gs H0 σ G H C r hl P hp D d => hp.1.elim⟩
end
instance {α : Type} [DecidableEq α] {e : α → PyData} [h : EncQ e] [k : EncS e] : EncQ (eO e) := ⟨fun x y => by
  cases x with
  | none =>
    cases y with
    | none => show PyData.eqv .none .none = _; rw [PyData.eqv]; rfl
    | some b =>
      show PyData.eqv .none (e b) = _
      have := k.no b
      cases q : e b <;> first | exact (this q).elim | (rw [PyData.eqv] <;> first | rfl | simp)
  | some a =>
    cases y with
    | none =>
      show PyData.eqv (e a) .none = _
      have := k.no a
      cases q : e a <;> first | exact (this q).elim | (rw [PyData.eqv] <;> first | rfl | simp)
    | some b =>
      show PyData.eqv (e a) (e b) = _
      rw [h.eq]; simp⟩
/-! x = [..] where x is a cell: a plain store -/
theorem sw_cell {e : Expr} {y : Str} {py : Pos} {l : Nat} {env : Env} (hy : env.scope.names.lookup y = some .cell) : swapsWith e (some (.Name y py)) l env = pure false := by
  have ky : env.kindOf y = some .cell := hy
  cases e <;> first | rfl | (unfold swapsWith; simp only [ky]; simp [show (NameKind.cell == NameKind.local) = false from rfl]; done) | (unfold swapsWith; simp only [ky]; simp [show (NameKind.cell == NameKind.local) = false from rfl]; rfl)
section
variable {T : Tx} {F : Fr} {S : List Sl} {ρ β α : Type} {er : ρ → XD} {sb : β → List Sl} {e : Expr} {pos : Pos}
theorem JS.setLc (i : Nat) {x : Str} {xp : Pos} {enc : α → PyData} {w : W (List α)} (h : JL T F e (hideS S) enc w) (hc : F.sc.names.lookup x = some .cell := by kernel_rfl) (hi : F.sto i x = true := by kernel_rfl) : JS T F (.Assign [.Name x xp] e pos) S er sb (fun t : List α => S.set i (.l (t.map enc))) (do let t ← w; pure (.nx t)) :=
  ⟨fun X M Gs H0 σ G H C r hl P hp D d => by
    obtain ⟨h1, h2, h3⟩ := C.sto hi
    have hlt : i < σ.length := by rw [hl, ← C.N]; exact (List.getElem?_eq_some_iff.mp h1).1
    exact s_set i (h.run X M σ G H C r.wd r.view _ hp _ fun v t G2 H2 s ⟨q, vs, e1, e2, e3, e4, e5⟩ p => by
      subst e1; exact d.nx t _ G2 H2 p (r.setL s e2 e3 e4 e5 hlt) s.gg) C.nd h1 h2 (sw_cell (by rw [C.sc]; exact hc)) h3⟩
theorem JS.setLcF (i : Nat) {x : Str} {xp : Pos} {enc : α → PyData} [EncF enc] {w : W (List α)} (h : JL T F e S enc w) (hc : F.sc.names.lookup x = some .cell := by kernel_rfl) (hi : F.sto i x = true := by kernel_rfl) : JS T F (.Assign [.Name x xp] e pos) S er sb (fun t : List α => S.set i (.l (t.map enc))) (do let t ← w; pure (.nx t)) :=
  ⟨fun X M Gs H0 σ G H C r hl P hp D d => by
    obtain ⟨h1, h2, h3⟩ := C.sto hi
    have hlt : i < σ.length := by rw [hl, ← C.N]; exact (List.getElem?_eq_some_iff.mp h1).1
    exact s_set i (h.run X M σ _ H C r.fzWd r.fzView _ hp _ fun v t G2 H2 s hv p => by
      obtain ⟨q, vs, G3, e1, r3, s3, e2, e3, e4, e5⟩ := unfz_list r s hv
      subst e1; exact d.nx t _ G3 H2 p (r.setL s3 e2 e3 e4 e5 hlt) s3.gg) C.nd h1 h2 (sw_cell (by rw [C.sc]; exact hc)) h3⟩
end
end DW
namespace DW
open PySem L2 PL
/-! enumerate(a list) -/
def enumL {α : Type} (xs : List α) : List (Int × α) := xs.zipIdx.map fun p => (((p.2 : Nat) : Int), p.1)
theorem enumL_get {α : Type} {xs : List α} {i : Nat} : (enumL xs)[i]? = xs[i]?.map fun x => (((i : Nat) : Int), x) := by
  unfold enumL
  rw [List.getElem?_map, List.getElem?_zipIdx]
  cases xs[i]? <;> simp
theorem enumL_len {α : Type} {xs : List α} : (enumL xs).length = xs.length := by unfold enumL; simp
theorem enumL_map {α β : Type} {xs : List α} (f : α → β) : enumL (xs.map f) = (enumL xs).map fun p => (p.1, f p.2) := by
  refine List.ext_getElem? fun i => ?_
  rw [enumL_get, List.getElem?_map, List.getElem?_map, enumL_get]
  cases xs[i]? <;> rfl
theorem Wk.enum {M : MS} {K : PySem.W.Frag} {G : Hp} {a : Addr} {xs : List V} {ds : List PyData} (h : SqL K G a xs) (hd : DpAll K G xs ds) : Wk M K (Ite K a) G ((enumL ds).map fun p => .tuple [.int p.1, p.2]) where
  stop := fun G1 H x w => ⟨xs, (x.trans w.gh).sql h, by rw [dps_len hd, List.length_map, enumL_len]; exact Nat.le_refl _⟩
  go := fun i G1 H hi x w => by
    rw [List.length_map, enumL_len] at hi
    exact ⟨xs, xs[i]'(by rw [dps_len hd]; exact hi), (x.trans w.gh).sql h, by simp⟩
  yld := fun i G1 H v H' hi x w ⟨p, y, e, n, e2, f⟩ => by
    subst e; subst e2
    have hy := f xs ((x.trans w.gh).sql h)
    obtain ⟨d, e1, e2⟩ := dps_getV hd hy
    refine ⟨.tuple [.int (i : Nat), d], upd G1 p (.tup [.int (i : Nat), y]), by rw [List.getElem?_map, enumL_get, e1]; rfl, Stp.laid w n, ?_⟩
    have xn : Ex G1 (upd G1 p (.tup [.int (i : Nat), y])) := Ex.new (w.gh.back n)
    exact .tup (.inl (.inl upd_same)) (.cons (.int _) (.cons (xn.dp (x.dp e2)) .nil))
section
variable {T : Tx} {F : Fr} {S : List Sl} {α β : Type} {e a : Expr} {pos p tpos : Pos} {elts : List Expr} {kk : Nat}
theorem JI.enumL (B : Blt T) {enc : α → PyData} {w : W (List α)} (h : JE T F a S (eL enc) w) (hg : F.glo "enumerate" = true := by kernel_rfl) (na : ∀ env, starEach [a] env = (false, eval a env) :: starEach [] env := by exact fun _ => star_one rfl) (nl : ∀ env, starEach [a] env = [(false, eval a env)] := by exact fun _ => star_last rfl) (hs : ∀ env x, foldedSetIterable (.Call (.Name "enumerate" p) [a] [] pos) env x = pure x := by intro _ _; rfl) : JI T F (.Tuple elts kk tpos) (.Call (.Name "enumerate" p) [a] [] pos) S (eP eI enc) (do let l ← w; pure (DW.enumL l)) :=
  ⟨hs, fun X M σ G H C wd v P hp R r => by
    obtain ⟨g1, g2⟩ := C.glo hg
    refine toI (pi_enum g1 (by rw [C.mg]; exact B.enumerate) (paR [a]) (nl _)) (toA (pa_cons (peR a) pa_nil (na _)) (h.run X M σ G H C wd v _ hp _ fun v' t G2 H2 s d pt => ?_))
    obtain ⟨ad, xs, rfl, h1, h2⟩ := dp_lst d
    have e1 : (DW.enumL t).map (eP eI enc) = (DW.enumL (t.map enc)).map fun p => PyData.tuple [.int p.1, p.2] := by rw [enumL_map, List.map_map]; rfl
    exact ⟨ad, xs, rfl, C.K ▸ s.wd.gh.sql h1, by rw [C.K]; exact r _ (DW.enumL t) G2 H2 s (by rw [e1]; exact .enum h1 h2) pt⟩⟩
end
end DW
namespace DW
open PySem L2 PL
/-! values of own classes: instances that are made once and stay -/
def KPis (u : V) : KP := ⟨fun _ _ v => v = u, fun _ h => h, fun _ h => h⟩
inductive FsAll (K : PySem.W.Frag) (G : Hp) : List (Str × V) → List (Str × PyData) → Prop
  | nil : FsAll K G [] []
  | cons {f : Str} {v : V} {d : PyData} {vs : List (Str × V)} {ds : List (Str × PyData)} (h : Dp K G v d) (t : FsAll K G vs ds) : FsAll K G ((f, v) :: vs) ((f, d) :: ds)
theorem FsAll.up {K : PySem.W.Frag} {G G' : Hp} {vs : List (Str × V)} {ds : List (Str × PyData)} (h : FsAll K G vs ds) (x : Ex G G') : FsAll K G' vs ds := by
  induction h with
  | nil => exact .nil
  | cons h _ ih => exact .cons (x.dp h) ih
theorem FsAll.look {K : PySem.W.Frag} {G : Hp} {vs : List (Str × V)} {ds : List (Str × PyData)} (h : FsAll K G vs ds) {f : Str} {d : PyData} (e : ds.lookup f = some d) : ∃ v, vs.lookup f = some v ∧ Dp K G v d := by
  induction h with
  | nil => cases e
  | @cons g v d' vs ds h _ ih =>
    rw [List.lookup_cons] at e ⊢
    cases z : f == g with
    | true => rw [z] at e; cases e; exact ⟨v, rfl, h⟩
    | false => rw [z] at e; exact ih e
def KIns (T : Tx) (cn : Str) (fs : List (Str × PyData)) : KP where
  p := fun _ G v => ∃ a C dx vs, v = .ref a ∧ T.mg cn = some (.ref C) ∧ G a = some (.ins C dx vs) ∧ FsAll T.K G vs fs
  up := fun x ⟨a, C, dx, vs, e1, e2, e3, e4⟩ => ⟨a, C, dx, vs, e1, e2, x _ _ e3, e4.up x⟩
  bk := fun _ h => h
theorem KIns.any {T : Tx} {cn : Str} {fs : List (Str × PyData)} {H0 H1 G : Hp} {v : V} (h : (KIns T cn fs).p H0 G v) : (KIns T cn fs).p H1 G v := h
/-- what is known of a class -/
structure ClF (T : Tx) (cn : Str) (fs : List Str) : Prop where
  ex : ∃ C, T.mg cn = some (.ref C) ∧ Cls T.K C ∧ ∀ f ∈ fs, NoAttr T.K C f
def SpI (T : Tx) (C : Addr) {α ρ : Type} (ea : α → List XD) (er : ρ → List (Str × PyData)) (m : α → W ρ) : Sp := fun vs H Q _ => ∃ (M : MS) (G H1 : Hp) (x dx : Addr) (us : List V) (a : α) (P : ρ → Prop), vs = .ref x :: us ∧ H = upd (upd H1 dx (.own x)) x (.ins C dx []) ∧ H1 x = none ∧ H1 dx = none ∧ dx ≠ x ∧ Wd M G H1 ∧ MIn T.mt M ∧ VpAll T M G us (ea a) ∧ m a P ∧
  ∀ r G' H' fvs, Stp M G H1 G' H' → G' x = none → H' x = some (.ins C dx fvs) → FsAll T.K G' fvs (er r) → P r → Q .non H'
structure FI (T : Tx) (cn : Str) (k : Nat) (ps : List Str) {α ρ : Type} (ea : α → List XD) (er : ρ → List (Str × PyData)) (m : α → W ρ) : Prop where
  ex : ∃ C f fd, T.mg cn = some (.ref C) ∧ Mk T.K C f ∧ FnOk T.P T.w T.K T.mg T.base CX0 k f fd ps (SpI T C ea er m) ∧ Binds T.K fd ps []
section
variable {T : Tx} {F : Fr} {S : List Sl} {α β γ ρ : Type} {e a : Expr} {es : List Expr} {pos p : Pos} {cn : Str}
theorem JX.varI (i : Nat) {x : Str} {er : α → List (Str × PyData)} (t : α) (hs : S[i]? = some (.q (KIns T cn (er t)))) (hv : F.vis i x = true := by kernel_rfl) : JX T F (.Name x pos) S (fun t => .q (KIns T cn (er t))) (pure t) :=
  ⟨fun X M σ G H C wd v P hp Q q => by
    obtain ⟨h1, h2, h3, h4⟩ := C.vis hv
    obtain ⟨u, Hb, e, d⟩ := v.at_ i _ hs
    exact toE (pe_var h1 h2 h3 h4) ⟨u, e, q u t G H (.refl wd) (KIns.any d) hp⟩⟩
theorem JX.fld {fs : List Str} {er : α → List (Str × PyData)} {w : W α} {enc : β → PyData} {f : Str} (cf : ClF T cn fs) (g : α → β) (h : JX T F e S (fun t => .q (KIns T cn (er t))) w) (hl : ∀ t, (er t).lookup f = some (enc (g t))) (hf : f ∈ fs := by decide) (hb : ∀ env, attributeBase e f env (eval e env) = eval e env := by intro _; rfl) : JE T F (.Attribute e f pos) S enc (w >>= fun t => pure (g t)) :=
  ⟨fun X M σ G H C wd v P hp Q q => by
    obtain ⟨Ca, c1, c2, c3⟩ := cf.ex
    refine toE (pe_fld (peR e) (hb _)) (h.run X M σ G H C wd v _ hp _ fun v' t G2 H2 s d pt => ?_)
    obtain ⟨ad, C', dx, vs, rfl, e1, e2, e3⟩ := d
    rw [c1] at e1; cases e1
    obtain ⟨u, l1, l2⟩ := e3.look (hl t)
    exact ⟨ad, Ca, dx, vs, u, rfl, s.wd.gh _ _ e2, by rw [C.K]; exact c2, by rw [C.K]; exact c3 f hf, l1, q u (g t) G2 H2 s l2 pt⟩⟩
theorem JA.ins {er : α → List (Str × PyData)} {encs : β → List XD} {w : W α} {wr : W β} (h : JX T F e S (fun t => .q (KIns T cn (er t))) w) (hr : JA T F es S encs wr) (hs : ∀ env, starEach (e :: es) env = (false, eval e env) :: starEach es env := by exact fun _ => star_one rfl) : JA T F (e :: es) S (fun p : α × β => .q (KIns T cn (er p.1)) :: encs p.2) (do let x ← w; let y ← wr; pure (x, y)) :=
  ⟨fun X M σ G H C wd v P hp Q q => toA (pa_cons (peR e) (paR es) (hs _)) (h.run X M σ G H C wd v _ hp _ fun v' x G2 H2 s d p => hr.run X M σ G2 H2 C s.wd (v.up s.gg) _ p _ fun vs y G3 H3 s' d' p' => q _ (x, y) G3 H3 (s.trans s') (.cons (show Vp T M G3 v' (.q (KIns T cn (er x))) from fun Hb => (KIns T cn (er x)).up s'.gg (KIns.any d)) d') p')⟩
theorem JX.make {k : Nat} {ps : List Str} {ea : α → List XD} {er : ρ → List (Str × PyData)} {m : α → W ρ} {w : W α} (f : FI T cn k ps ea er m) (ha : JA T F (e :: es) S ea w) (hk : k + 1 ≤ F.k := by decide) (hg : F.glo cn = true := by kernel_rfl)
    (he : ∀ env, starEach (e :: es) env = (false, eval e env) :: starEach es env := by exact fun _ => star_one rfl) (hpl : ∀ env, (backTo pos (starEach es env)).any (·.1) = false := by exact fun _ => back_ok rfl) : JX T F (.Call (.Name cn p) (e :: es) [] pos) S (fun r => .q (KIns T cn (er r))) (w >>= m) :=
  ⟨fun X M σ G H C wd v P hp Q q => by
    obtain ⟨g1, g2⟩ := C.glo hg
    have ex := f.ex
    obtain ⟨Ca, fa, fd, c1, mk, ok, b⟩ := ex
    have mk' : Mk X.K Ca fa := by rw [C.K]; exact mk
    have ok' : FnOk X.prog X.w X.K X.mg X.base CX0 k fa fd ps (SpI T Ca ea er m) := by
      rw [C.P, show X.w = T.w from congrArg Tx.w C.tx, C.K, C.mg, show X.base = T.base from congrArg Tx.base C.tx]
      exact ok
    refine toE (pe_make mk' ok' (C.room.mono hk) g1 (by rw [C.mg]; exact c1) (by rw [C.K]; exact b) .nil pass0 (paR (e :: es)) g2 (he _) (hpl _)) (ha.run X M σ G H C wd v _ hp _ fun vs a G2 H2 s d pa => fun x dx hx hdx hne => ?_)
    refine ⟨M, G2, H2, x, dx, vs, a, P, by rw [List.append_nil], rfl, hx, hdx, hne, s.wd, v.mt, d, pa, fun r G' H' fvs s2 gx hx2 hfs pr => ⟨rfl, ?_⟩⟩
    refine q _ r (upd G' x (.ins Ca dx fvs)) H' (s.trans (s2.know hx hx2)) ⟨x, Ca, dx, fvs, rfl, c1, upd_same, hfs.up (Ex.new gx)⟩ pr⟩
/-- x = an instance -/
theorem JS.setI {β : Type} {er0 : ρ → XD} {sb : β → List Sl} (i : Nat) {x : Str} {xp : Pos} {er : α → List (Str × PyData)} {w : W α} (h : JX T F e (hideS S) (fun t => .q (KIns T cn (er t))) w) (hsw : ∀ env, swapsWith e (some (.Name x xp)) pos.line env = pure false := by exact fun _ => sw_no rfl) (hi : F.sto i x = true := by kernel_rfl) : JS T F (.Assign [.Name x xp] e pos) S er0 sb (fun t : α => S.set i (.q (KIns T cn (er t)))) (do let t ← w; pure (.nx t)) :=
  ⟨fun X M Gs H0 σ G H C r hl P hp D d => by
    obtain ⟨h1, h2, h3⟩ := C.sto hi
    have hlt : i < σ.length := by rw [hl, ← C.N]; exact (List.getElem?_eq_some_iff.mp h1).1
    exact s_set i (h.run X M σ G H C r.wd r.view _ hp _ fun v t G2 H2 s hv p => d.nx t _ G2 H2 p ((r.step s).setQ (KIns.any hv) hlt) s.gg) C.nd h1 h2 (hsw _) h3⟩
end
end DW
namespace DW
open PySem L2 PL PLS
/-! len(set(a list of ints)), min of a list -/
def lensetW (ns : List Int) : W Int := fun Q => ns.length < 4000 ∧ ∀ L : List Int, L.Nodup → (∀ k, k ∈ L ↔ k ∈ ns) → Q ((L.length : Nat) : Int)
section
variable {X : Cx}
theorem cr_setL (hc : X.calm = true) : CallR X (.type "set") (fun xs H Q => ∃ (l : Addr) (ns : List Int), xs = [.ref l] ∧ SqL X.K H l (ns.map V.int) ∧ ns.length < 4000 ∧ ∀ a (L : List Int), H a = none → L.Nodup → (∀ k, k ∈ L ↔ k ∈ ns) → Q (.ref a) (upd H a (SetO X.w a (fun j => decide (j ∈ ns)) L.length))) := by
  intro pins s σ H xs us Q I r h
  obtain ⟨l, ns, rfl, hl, hz, q⟩ := h
  rw [Vals.ref1 r]
  obtain ⟨its, rv, pl, _⟩ := I.list hl
  refine call_set_ints ns (I.ok.hd hc) pl.isList (by simpa using rv.ints) (by unfold scanBound; omega) fun h' tk c R hcn k => ?_
  have ⟨o, es, ep, t, _, _, _, _, nd, mem, _, _, e, _⟩ := R
  have el : (es.toList.map keyOf).length = c := by rw [List.length_map, Array.length_toList, e]
  subst el
  exact ⟨.ref s.heap.objs.size, _, I.laid (t' := tk) k (Nat.le_refl _) (setO_new R), rfl, q _ _ (I.hok.fresh (Nat.le_refl _)) nd fun k => by rw [← mem k, decide_eq_true_iff]⟩
theorem cr_lenSet : CallR X (.builtin "len") (fun xs H Q => ∃ (a : Addr) (S : Int → Bool) (n : Nat), xs = [.ref a] ∧ H a = some (SetO X.w a S n) ∧ Q (.int n) H) := by
  intro pins s σ H xs us Q I r h
  obtain ⟨a, S, n, rfl, ha, q⟩ := h
  rw [Vals.ref1 r]
  obtain ⟨o, es, ep, t, ho, hex, hd, _, _, _, hb, hf, hn, _⟩ := setO_get I ha
  exact call_len_set ho hex hd hf (by unfold scanBound at hb; omega) ⟨.int n, H, I.tok _, ⟨_, by rw [hn]⟩, q⟩
end
section
variable {T : Tx} {F : Fr} {S : List Sl} {e a : Expr} {p p2 p3 pos : Pos}
theorem JE.lenSetI (B : Blt T) {w : W (List Int)} (h : JE T F a S (eL eI) w) (hg : F.glo "len" = true := by kernel_rfl) (hg2 : F.glo "set" = true := by kernel_rfl) (na : ∀ env, starEach [a] env = (false, eval a env) :: starEach [] env := by exact fun _ => star_one rfl) : JE T F (.Call (.Name "len" p) [.Call (.Name "set" p2) [a] [] p3] [] pos) S eI (do let l ← w; lensetW l) :=
  ⟨fun X M σ G H C wd v P hp Q q => by
    obtain ⟨g1, g2⟩ := C.glo hg
    obtain ⟨g3, g4⟩ := C.glo hg2
    refine toE (pe_callB cr_lenSet g1 (by rw [C.mg]; exact B.len) PySem.boot_len (pa_cons (pe_callTy (cr_setL C.calm) g3 (by rw [C.mg]; exact B.set) (by decide +kernel) (pa_cons (peR a) pa_nil (na _)) (by decide) g4 (na _)) pa_nil (star_one rfl)) (by decide) g2 (star_one rfl)) (h.run X M σ G H C wd v _ hp _ fun v ns G2 H2 s d px => ?_)
    obtain ⟨hz, px⟩ := px
    obtain ⟨p', xs, rfl, h1, h2⟩ := dp_lst d
    have e := dps_ints h2; subst e
    refine ⟨p', ns, rfl, C.K ▸ s.wd.gh.sql h1, hz, fun a' L ha nd mem => ⟨a', _, L.length, rfl, upd_same, ?_⟩⟩
    exact q _ _ G2 _ (s.trans (.laidN (o := SetO X.w a' (fun j => decide (j ∈ ns)) L.length) s.wd ha)) (.int _) (px L nd mem)⟩
def minW (ns : List Int) : W Int := fun Q => 0 < ns.length ∧ ∀ m, m ∈ ns → (∀ k ∈ ns, m ≤ k) → Q m
theorem JE.minL (B : Blt T) {w : W (List Int)} (h : JE T F a S (eL eI) w) (hg : F.glo "min" = true := by kernel_rfl) (na : ∀ env, starEach [a] env = (false, eval a env) :: starEach [] env := by exact fun _ => star_one rfl) : JE T F (.Call (.Name "min" p) [a] [] pos) S eI (do let l ← w; minW l) :=
  JX.blt1 (fun X C => cr_min C.calm) B.min (by decide +kernel) hg h (fun X M G H v t P Q C wd d pt q => by
    obtain ⟨p', xs, rfl, h1, h2⟩ := dp_lst d
    have e := dps_ints h2; subst e
    exact ⟨p', t, rfl, C.K ▸ wd.gh.sql h1, pt.1, fun m hm hle => q _ m G H (.refl wd) (.int m) (pt.2 m hm hle)⟩) (by decide) na
end
/-! one of two kinds -/
def eSum {α β : Type} (ea : α → PyData) (eb : β → PyData) : α ⊕ β → PyData
  | .inl x => ea x
  | .inr y => eb y
def outlW {α β : Type} (x : α ⊕ β) : W α := fun Q => ∃ y, x = .inl y ∧ Q y
def outrW {α β : Type} (x : α ⊕ β) : W β := fun Q => ∃ y, x = .inr y ∧ Q y
section
variable {T : Tx} {F : Fr} {S : List Sl} {α β : Type} {e : Expr}
theorem JX.inl {ea : α → PyData} {eb : β → PyData} {w : W α} (h : JE T F e S ea w) : JE T F e S (eSum ea eb) (w >>= fun x => pure (Sum.inl x)) := JX.map Sum.inl h fun _ => rfl
theorem JX.inr {ea : α → PyData} {eb : β → PyData} {w : W β} (h : JE T F e S eb w) : JE T F e S (eSum ea eb) (w >>= fun x => pure (Sum.inr x)) := JX.map Sum.inr h fun _ => rfl
theorem JX.outl {ea : α → PyData} {eb : β → PyData} {w : W (α ⊕ β)} (h : JE T F e S (eSum ea eb) w) : JE T F e S ea (w >>= outlW) := ⟨fun X M σ G H C wd v P hp Q q => h.run X M σ G H C wd v _ hp Q fun v t G2 H2 s d p => by
  obtain ⟨y, rfl, p⟩ := p
  exact q v y G2 H2 s d p⟩
theorem JX.outr {ea : α → PyData} {eb : β → PyData} {w : W (α ⊕ β)} (h : JE T F e S (eSum ea eb) w) : JE T F e S eb (w >>= outrW) := ⟨fun X M σ G H C wd v P hp Q q => h.run X M σ G H C wd v _ hp Q fun v t G2 H2 s d p => by
  obtain ⟨y, rfl, p⟩ := p
  exact q v y G2 H2 s d p⟩
end
instance {α β : Type} {ea : α → PyData} {eb : β → PyData} {n m : Nat} [h : EncD ea n] [k : EncD eb m] : EncD (eSum ea eb) (max n m) := ⟨fun x => by
  cases x with
  | inl x => exact h.can x
  | inr y => exact k.can y, fun x => by
  cases x with
  | inl x => exact Nat.le_trans (h.dep x) (Nat.le_max_left _ _)
  | inr y => exact Nat.le_trans (k.dep y) (Nat.le_max_right _ _)⟩
end DW
namespace DW
open PySem L2 PL
/-! an expression that is never reached; a list stored in a list that grows -/
def deadW {α : Type} : W α := fun _ => False
section
variable {T : Tx} {F : Fr} {S : List Sl} {ρ β α γ : Type} {er : ρ → XD} {sb : β → List Sl} {e a : Expr} {pos spos : Pos}
theorem JX.deadE {enc : α → XD} : JX T F e S enc deadW := ⟨fun X M σ G H C wd v P hp Q q => hp.elim⟩
theorem JS.putL (i : Nat) {x : Str} {xp : Pos} {enc : α → PyData} [EncF enc] {w : W (List α)} {wk : W Int} {xs : List (List α)} (hs : S[i]? = some (.l (xs.map (eL enc)))) (h : JL T F e S enc w) (hk : JK T F a S eI wk) (hv : F.vis i x = true := by kernel_rfl)
    (ha : ∀ env v, assign (.Subscript (.Name x xp) a spos) env v = (do
      let ov ← holding [v] (eval (.Name x xp) env)
      let iv ← holding [v, ov] (eval a env)
      standAt spos
      holding [v, ov, iv] (setItem ov iv v)
      release [v, ov, iv] []) := by intro _ _; rfl)
    (hsw : ∀ env, swapsWithSole [.Subscript (.Name x xp) a spos] e pos.line env = pure false := by first | exact fun _ => sw_noS rfl | (intro _; rfl)) (hw : ∀ env, swappedStores [.Subscript (.Name x xp) a spos] e env = pure none := by intro _; rfl)
    (h1 : ∀ env, (assignEach [.Subscript (.Name x xp) a spos] env).map (·.2) = [assign (.Subscript (.Name x xp) a spos) env] := by intro _; rfl) : JS T F (.Assign [.Subscript (.Name x xp) a spos] e pos) S er sb (fun t : List (List α) => S.set i (.l (t.map (eL enc)))) (do let t ← w; let k ← wk; let l ← putW xs k t; pure (.nx l)) :=
  ⟨fun X M Gs H0 σ G H C r hl P hp D d => by
    obtain ⟨q1, q2, q3, q4⟩ := C.vis hv
    obtain ⟨p, vs, a', b, c, d', e'⟩ := r.sl i _ hs
    refine s_sub set_list (h.run X M σ _ H C r.fzWd r.fzView _ hp _ fun v t G2 H2 s hd pt => ?_) (ha _) (hsw _) (hw _) (h1 _)
    obtain ⟨q, us, G3, e1, r3, s3, e2, e3, e4, e5⟩ := unfz_list r s hd
    subst e1
    have sk : Stp M G H (upd G3 q (.lst us)) H2 := s3.know e2 e4
    have rk : Rel T M Gs H0 S (upd G3 q (.lst us)) σ H2 := r.step sk
    have hq : Dp T.K (upd G3 q (.lst us)) (.ref q) (.list (t.map enc)) := .lst (.inl (.inl upd_same)) ((Ex.new e3).dps e5)
    refine toE (pe_var q1 q2 q3 q4) ⟨_, a', hk.run X M Gs H0 σ _ H2 C rk _ pt _ fun v2 k G4 H3 r4 s4 hd2 ⟨j, hj, pj⟩ => ?_⟩
    cases hd2
    have hl3 := s4.hh p _ (rk.stp.nm b) (s.hh p _ (r.stp.nm b) d')
    have ez := dps_len e'
    rw [List.length_map] at ez
    refine ⟨p, vs, k, j, rfl, rfl, hl3, by rw [ez]; exact hj, d.nx (xs.set j t) _ G4 _ pj (r4.mut hs a' ?_) (sk.gg.trans s4.gg)⟩
    have hde := (sk.gg.trans s4.gg).dps e'
    rw [List.map_set]
    exact dps_set hde (s4.gg.dp hq)⟩
end
/-! x = [..], x a cell, known at once; four in a tuple -/
theorem JS.setEc {T : Tx} {F : Fr} {S : List Sl} {ρ β α : Type} {er : ρ → XD} {sb : β → List Sl} {e : Expr} {pos : Pos} (i : Nat) {x : Str} {xp : Pos} {enc : α → PyData} {w : W α} (h : JE T F e (hideS S) enc w) (hc : F.sc.names.lookup x = some .cell := by kernel_rfl) (hi : F.sto i x = true := by kernel_rfl) : JS T F (.Assign [.Name x xp] e pos) S er sb (fun t : α => S.set i (.d (enc t))) (do let t ← w; pure (.nx t)) :=
  ⟨fun X M Gs H0 σ G H C r hl P hp D d => by
    obtain ⟨h1, h2, h3⟩ := C.sto hi
    have hlt : i < σ.length := by rw [hl, ← C.N]; exact (List.getElem?_eq_some_iff.mp h1).1
    exact s_set i (h.run X M σ G H C r.wd r.view _ hp _ fun v t G2 H2 s hv p => d.nx t _ G2 H2 p ((r.step s).setD hv hlt) s.gg) C.nd h1 h2 (sw_cell (by rw [C.sc]; exact hc)) h3⟩
theorem JE.tup4 {T : Tx} {F : Fr} {S : List Sl} {α β γ δ : Type} {a b c d : Expr} {k : Nat} {pos : Pos} {ea : α → PyData} {eb : β → PyData} {ec : γ → PyData} {ed : δ → PyData} {wa : W α} {wb : W β} {wc : W γ} {wd : W δ} (ha : JE T F a S ea wa) (hb : JE T F b S eb wb) (hc : JE T F c S ec wc) (hd : JE T F d S ed wd) (h1 : ∀ env, starEach [a, b, c, d] env = (false, eval a env) :: starEach [b, c, d] env := by exact fun _ => star_one rfl) (h2 : ∀ env, starEach [b, c, d] env = (false, eval b env) :: starEach [c, d] env := by exact fun _ => star_one rfl) (h3 : ∀ env, starEach [c, d] env = (false, eval c env) :: starEach [d] env := by exact fun _ => star_one rfl) (h4 : ∀ env, starEach [d] env = (false, eval d env) :: starEach [] env := by exact fun _ => star_one rfl) : JE T F (.Tuple [a, b, c, d] k pos) S (eP4 ea eb ec ed) (do let x ← wa; let y ← wb; let z ← wc; let u ← wd; pure (x, y, z, u)) :=
  ⟨fun X M σ G H C wd0 v P hp Q q => toE (pe_tup (pa_cons (peR a) (pa_cons (peR b) (pa_cons (peR c) (pa_cons (peR d) pa_nil (h4 _)) (h3 _)) (h2 _)) (h1 _))) (ha.run X M σ G H C wd0 v _ hp _ fun v1 x G1 H1 s1 d1 p1 => hb.run X M σ G1 H1 C s1.wd (v.up s1.gg) _ p1 _ fun v2 y G2 H2 s2 d2 p2 => hc.run X M σ G2 H2 C s2.wd (v.up (s1.gg.trans s2.gg)) _ p2 _ fun v3 z G3 H3 s3 d3 p3 => hd.run X M σ G3 H3 C s3.wd (v.up ((s1.gg.trans s2.gg).trans s3.gg)) _ p3 _ fun v4 u G4 H4 s4 d4 p4 => by
    refine ⟨sz (by simp), fun p hp => ?_⟩
    have s5 := (((s1.trans s2).trans s3).trans s4).trans (.laid (o := .tup [v1, v2, v3, v4]) s4.wd hp)
    have x4 : Ex G4 (upd G4 p (.tup [v1, v2, v3, v4])) := Ex.new (s4.wd.gh.back hp)
    exact q _ (x, y, z, u) _ _ s5 (.tup (.inl (.inl upd_same)) (.cons ((s2.gg.trans (s3.gg.trans (s4.gg.trans x4))).dp d1) (.cons ((s3.gg.trans (s4.gg.trans x4)).dp d2) (.cons ((s4.gg.trans x4).dp d3) (.cons (x4.dp d4) .nil))))) p4)⟩
theorem JG.four {T : Tx} {F : Fr} {α β γ δ : Type} {x y z u : Expr} {k : Nat} {pos : Pos} {ea : α → PyData} {eb : β → PyData} {ec : γ → PyData} {ed : δ → PyData} {js ks ls ms : List Nat} {u1 : α → List PyData} {u2 : β → List PyData} {u3 : γ → List PyData} {u4 : δ → List PyData} (h1 : JG T F x ea js u1) (h2 : JG T F y eb ks u2) (h3 : JG T F z ec ls u3) (h4 : JG T F u ed ms u4) (l1 : ∀ t, (u1 t).length = js.length := by intro _; rfl) (l2 : ∀ t, (u2 t).length = ks.length := by intro _; rfl) (l3 : ∀ t, (u3 t).length = ls.length := by intro _; rfl) (l4 : ∀ t, (u4 t).length = ms.length := by intro _; rfl)
    (a1 : ∀ env, (assignEach [x, y, z, u] env).map (·.2) = assign x env :: (assignEach [y, z, u] env).map (·.2) := by intro _; rfl) (a2 : ∀ env, (assignEach [y, z, u] env).map (·.2) = assign y env :: (assignEach [z, u] env).map (·.2) := by intro _; rfl) (a3 : ∀ env, (assignEach [z, u] env).map (·.2) = assign z env :: (assignEach [u] env).map (·.2) := by intro _; rfl) (a4 : ∀ env, (assignEach [u] env).map (·.2) = assign u env :: (assignEach [] env).map (·.2) := by intro _; rfl)
    (hn : ∀ env, (assignEach [x, y, z, u] env).length = 4 := by intro _; rfl) (hst : ∀ env, (assignEach [x, y, z, u] env).findIdx? (·.1) = none := by intro _; rfl) : JG T F (.Tuple [x, y, z, u] k pos) (eP4 ea eb ec ed) (js ++ (ks ++ (ls ++ ms))) (fun t => u1 t.1 ++ (u2 t.2.1 ++ (u3 t.2.2.1 ++ u4 t.2.2.2))) :=
  JG.tup (encs := fun t : α × β × γ × δ => [ea t.1, eb t.2.1, ec t.2.2.1, ed t.2.2.2]) (up := fun t : α × β × γ × δ => u1 t.1 ++ (u2 t.2.1 ++ (u3 t.2.2.1 ++ u4 t.2.2.2))) (by
    have g1 : JG T F x (fun t : α × β × γ × δ => ea t.1) js (fun t => u1 t.1) := ⟨fun X G H σ v a C gh d Q q => h1.run X G H σ v a.1 C gh d Q q⟩
    have g2 : JG T F y (fun t : α × β × γ × δ => eb t.2.1) ks (fun t => u2 t.2.1) := ⟨fun X G H σ v a C gh d Q q => h2.run X G H σ v a.2.1 C gh d Q q⟩
    have g3 : JG T F z (fun t : α × β × γ × δ => ec t.2.2.1) ls (fun t => u3 t.2.2.1) := ⟨fun X G H σ v a C gh d Q q => h3.run X G H σ v a.2.2.1 C gh d Q q⟩
    have g4 : JG T F u (fun t : α × β × γ × δ => ed t.2.2.2) ms (fun t => u4 t.2.2.2) := ⟨fun X G H σ v a C gh d Q q => h4.run X G H σ v a.2.2.2 C gh d Q q⟩
    have := JGs.cons g1 (fun t => l1 t.1) (JGs.cons g2 (fun t => l2 t.2.1) (JGs.cons g3 (fun t => l3 t.2.2.1) (JGs.cons g4 (fun t => l4 t.2.2.2) JGs.nil a4) a3) a2) a1
    simpa using this) (fun _ => rfl) 4 (fun _ => rfl) hn hst
/-! some of what may be None -/
def unOW {α : Type} (o : Option α) : W α := fun Q => ∃ x, o = some x ∧ Q x
theorem JX.unO {T : Tx} {F : Fr} {S : List Sl} {α : Type} {e : Expr} {enc : α → PyData} {w : W (Option α)} (h : JE T F e S (eO enc) w) : JE T F e S enc (w >>= unOW) := ⟨fun X M σ G H C wd v P hp Q q => h.run X M σ G H C wd v _ hp Q fun v t G2 H2 s d p => by
  obtain ⟨y, rfl, p⟩ := p
  exact q v y G2 H2 s d p⟩
/-! regions -/
def eReg (r : Int × List (List Int × Int)) : List (Str × PyData) := [("villages", eI r.1), ("lines", eT (eP (eT eI) eI) r.2)]
end DW
namespace DW
end DW
namespace DW
open PySem L2 PL
def m_ordered (a : (List (List Int)) × Unit) : W (List (List Int)) := runW (β := Empty) (σ := Unit) (do let t1 ← (do let x8 ← (do let l4 ← (pure a.1); gd (l4.length < 100000); cmpW l4 (fun x2 => (do let x6 ← (do let x5 ← (pure x2); pure ((x5.length : Nat) : Int)); let y7 ← (pure (0 : Int)); pure (decide (y7 < x6)))) fun x2 => (do let x3 ← (pure x2); pure (srtI x3))); pure (srtE (eL eI) x8)); pure (.rt t1))
abbrev FD_ordered (T : Tx) : Prop := FD T "ordered" 1 ["blocks"] (fun a : (List (List Int)) × Unit => [.d ((eL (eL eI)) a.1)]) (fun r : (List (List Int)) => .l (r.map (eL eI))) m_ordered

def m_tidy_0 (a : Int × (List (List Int)) × Unit) : W (List Int) := (do let l3 ← (pure a.2.1); cmp2A l3 (fun _ => pure true) (fun x1 => (pure x1)) (fun _ _ => pure true) (fun x1 y2 => (pure y2)) [])
def m_tidy_1 (a : Int × (List (List Int)) × Unit) (y0 : (List Int)) : W Bool := (do let x10 ← (do let l9 ← (pure y0); gd (l9.length < 100000); cmpW l9 (fun _ => pure true) fun x4 => (do let x8 ← (do let x5 ← (pure (0 : Int)); let y6 ← (pure x4); if decide (x5 ≤ y6) then (do let z7 ← (pure a.1); pure (decide (y6 < z7))) else pure false); pure (!x8))); pure (x10.any id))
def m_tidy_2 (a : Int × (List (List Int)) × Unit) (y0 : (List Int)) : W Bool := (do let x13 ← (do let x11 ← (pure y0); lensetW x11); let y14 ← (do let x12 ← (pure y0); pure ((x12.length : Nat) : Int)); pure (decide (x13 < y14)))
def m_tidy_3 (a : Int × (List (List Int)) × Unit) (y0 : (List Int)) : W Bool := (do let x16 ← (do let x15 ← (pure y0); pure ((x15.length : Nat) : Int)); let y17 ← (pure a.1); pure (decide (x16 < y17)))
def m_tidy_4 (a : Int × (List (List Int)) × Unit) (y0 : (List Int)) : W (List (List Int)) := ((do let x18 ← (pure a.2.1); let y19 ← (pure ()); pure (x18, y19)) >>= m_ordered)

def ifE (s : Stmt) : Expr := match s with
  | .If e _ _ _ => e
  | _ => .Constant .none 0 ⟨0, 0, 0, 0⟩
def retE (s : Stmt) : Expr := match s with
  | .Return (some e) _ => e
  | _ => .Constant .none 0 ⟨0, 0, 0, 0⟩
def m_tidyD (a : Int × (List (List Int)) × Unit) (y : List Int) : W (Option (List (List Int))) := do
  let c3 ← m_tidy_3 a y
  if c3 then pure none else do
    let r ← m_tidy_4 a y
    pure (some r)
def m_tidyC (a : Int × (List (List Int)) × Unit) (y : List Int) : W (Option (List (List Int))) := do
  let c2 ← m_tidy_2 a y
  if c2 then pure none else m_tidyD a y
def m_tidyB (a : Int × (List (List Int)) × Unit) (y : List Int) : W (Option (List (List Int))) := do
  let c1 ← m_tidy_1 a y
  if c1 then pure none else m_tidyC a y
def m_tidy (a : Int × (List (List Int)) × Unit) : W (Option (List (List Int))) := do
  let y ← m_tidy_0 a
  m_tidyB a y
def m_is_division (a : Int × (List (List Int)) × Unit) : W Bool := do
  let o ← m_tidy a
  match o with
    | none => pure false
    | some l => pure (decide (l = a.2.1))
abbrev FD_is_division (T : Tx) : Prop := FD T "is_division" 4 ["villages", "blocks"] (fun a : Int × (List (List Int)) × Unit => [.d (eI a.1), .d (eL (eL eI) a.2.1)]) (fun r : Bool => .d (eB r)) m_is_division
/-- what is known of BadDivision -/
def spBad (C : Addr) : Sp := fun vs H Q _ => ∃ (a : Addr) (v : V), vs = [.ref a, v] ∧ H a = some (exo a C none) ∧ ∀ dx, H dx = none → dx ≠ a → Q .non (upd (upd H dx (exd dx [("why", v)])) a (exo a C (some dx)))
structure BdF (T : Tx) : Prop where
  ex : ∃ C fI fd, T.mg "BadDivision" = some (.ref C) ∧ OexC T.K C ∧ PySem.W.findIn T.K (.ref C) "__init__" = some (some (.ref fI)) ∧ PySem.W.typeIn T.K (.ref fI) = some (.type "function") ∧ PySem.W.findIn T.K (.ref C) "why" = some none ∧ PySem.W.exmOne T.K (.ref C) (.ref C) = some true ∧ FnOk T.P T.w T.K T.mg T.base CX0 1 fI fd ["self", "why"] (spBad C) ∧ Binds T.K fd ["self", "why"] []
def SpTidy (T : Tx) : Sp := fun vs H Q E => ∃ (M : MS) (G : Hp) (a : Int × (List (List Int)) × Unit) (P : Option (List (List Int)) → Prop), Wd M G H ∧ MIn T.mt M ∧ VpAll T M G vs [.d (eI a.1), .d (eL (eL eI) a.2.1)] ∧ m_tidy a P ∧ (∀ v r G' H', Stp M G H G' H' → Rv T M H G' H' v (.l (r.map (eL eI))) → P (some r) → Q v H') ∧ ∀ C d H', T.mg "BadDivision" = some (.ref C) → Stp M G H G H' → P none → E (.ref C) (some d) H'
structure FD_tidy (T : Tx) : Prop where
  ex : ∃ f fd, FnOk T.P T.w T.K T.mg T.base (L2.CX T.P T.w) 3 f fd ["villages", "blocks"] (SpTidy T) ∧ T.mg "tidy" = some (.ref f) ∧ PySem.W.keepIn T.K (.ref f) = true ∧ Binds T.K fd ["villages", "blocks"] []
def nxQ {ρ β σ : Type} (f : Fl ρ β σ) (p : σ → Prop) : Prop := match f with
  | .nx s => p s
  | _ => False

def m_singles (a : Int × Unit) : W (List (List Int)) := runW (β := Empty) (σ := Unit) (do let t1 ← (do let l7 ← (do let n2 ← (pure a.1); gd (-(2 ^ 62) ≤ n2 ∧ n2 < 2 ^ 62); pure (rgI 0 n2)); gd (l7.length < 100000); cmpW l7 (fun _ => pure true) fun x3 => (do let l6 ← (do let x4 ← (pure x3); let y5 ← (pure []); pure (x4 :: y5)); gd (l6.length ≤ 100000); pure l6)); pure (.rt t1))
abbrev FD_singles (T : Tx) : Prop := FD T "singles" 1 ["villages"] (fun a : Int × Unit => [.d (eI a.1)]) (fun r : (List (List Int)) => .l (r.map (eL eI))) m_singles

def m_touched_by (a : (List (List Int)) × (List Int) × Unit) : W (List Int) := runW (β := Empty) (σ := Unit) (do let t1 ← (do let l4 ← (do let l2 ← (pure a.1); pure (enumL l2)); gd (l4.length < 100000); cmpW l4 (fun x3 => (do let x9 ← (do let l8 ← (pure a.2.1); gd (l8.length < 100000); cmpW l8 (fun _ => pure true) fun x5 => (do let x6 ← (pure x5); let y7 ← (pure x3.2); pure (decide (x6 ∈ y7)))); pure (x9.any id))) fun x3 => (pure x3.1)); pure (.rt t1))
abbrev FD_touched_by (T : Tx) : Prop := FD T "touched_by" 1 ["division", "stops"] (fun a : (List (List Int)) × (List Int) × Unit => [.d ((eL (eL eI)) a.1), .d ((eT eI) a.2.1)]) (fun r : (List Int) => .l (r.map eI)) m_touched_by

def m_join_blocks (a : (List (List Int)) × (List Int) × Unit) : W (List (List Int)) := runW (β := Empty) (σ := Unit) (seqW (do let t7 ← (do let l4 ← (do let l1 ← (pure a.1); pure (enumL l1)); cmp2A l4 (fun x2 => (do let x5 ← (pure x2.1); let y6 ← (pure a.2.1); pure (decide (x5 ∈ y6)))) (fun x2 => (pure x2.2)) (fun _ _ => pure true) (fun x2 y3 => (pure y3)) []); pure (.nx t7)) (fun joined8 => (seqW (do let t14 ← (do let l11 ← (do let l9 ← (pure a.1); pure (enumL l9)); gd (l11.length < 100000); cmpW l11 (fun x10 => (do let x12 ← (pure x10.1); let y13 ← (pure a.2.1); pure (!decide (x12 ∈ y13)))) fun x10 => (pure x10.2)); pure (.nx t14)) (fun rest15 => (do let t16 ← ((do let x22 ← (do let l21 ← (do let x19 ← (pure joined8); let y20 ← (do let x17 ← (pure rest15); let y18 ← (pure []); pure (x17 ++ y18)); pure (x19 :: y20)); gd (l21.length ≤ 100000); pure l21); let y23 ← (pure ()); pure (x22, y23)) >>= m_ordered); pure (.rt t16))))))
abbrev FD_join_blocks (T : Tx) : Prop := FD T "join_blocks" 2 ["division", "places"] (fun a : (List (List Int)) × (List Int) × Unit => [.d ((eL (eL eI)) a.1), .d ((eL eI) a.2.1)]) (fun r : (List (List Int)) => .l (r.map (eL eI))) m_join_blocks

def m_heads_of_blocks (a : (List Int) × (List (List Int)) × Unit) : W Int := runW (β := Empty) (σ := Unit) (do let t1 ← (do let x7 ← (do let l6 ← (pure a.2.1); cmp2A l6 (fun _ => pure true) (fun x2 => (pure x2)) (fun _ _ => pure true) (fun x2 y3 => (do let x4 ← (pure a.1); let y5 ← (pure y3); getW x4 y5)) []); pure x7.sum); pure (.rt t1))
abbrev FD_heads_of_blocks (T : Tx) : Prop := FD T "heads_of_blocks" 1 ["census", "blocks"] (fun a : (List Int) × (List (List Int)) × Unit => [.d ((eL eI) a.1), .d ((eL (eL eI)) a.2.1)]) (fun r : Int => .d (eI r)) m_heads_of_blocks

def m_fault_of_join (a : (Int × List (List Int × Int)) × (List Int) × (List (List Int)) × Int × Unit) : W (Option Str) := runW (β := Empty) (σ := Unit) (seqW ((do let c7 ← (do let x6 ← (do let x3 ← (pure (0 : Int)); let y4 ← (pure a.2.2.2.1); if decide (x3 ≤ y4) then (do let z5 ← (do let x2 ← ((pure a.1) >>= fun x1 => pure x1.2); pure ((x2.length : Nat) : Int)); pure (decide (y4 < z5))) else pure false); pure (!x6)); if c7 then (do let t8 ← ((pure ("line" : Str)) >>= fun t9 => pure (Option.some t9)); pure (.rt t8)) else (pure (.nx (())))) : W (Fl (Option Str) Empty (Unit))) (fun s10 => (seqW (do let t15 ← (do let x12 ← ((pure a.1) >>= fun x11 => pure x11.2); let y13 ← (pure a.2.2.2.1); getW x12 y13); pure (.nx t15)) (fun t14 => (seqW (do let t24 ← (do let l23 ← ((do let x18 ← (pure a.2.2.1); let y19 ← (do let x16 ← (pure t14.1); let y17 ← (pure ()); pure (x16, y17)); pure (x18, y19)) >>= m_touched_by); gd (l23.length < 100000); cmpW l23 (fun _ => pure true) fun x20 => (do let x21 ← (pure a.2.2.1); let y22 ← (pure x20); getW x21 y22)); pure (.nx t24)) (fun touched25 => (seqW ((do let c29 ← (do let x27 ← (do let x26 ← (pure touched25); pure ((x26.length : Nat) : Int)); let y28 ← (pure (2 : Int)); pure (decide (x27 < y28))); if c29 then (do let t30 ← ((pure ("one" : Str)) >>= fun t31 => pure (Option.some t31)); pure (.rt t30)) else (pure (.nx (())))) : W (Fl (Option Str) Empty (Unit))) (fun s32 => (seqW ((do let c39 ← (do let x37 ← ((do let x35 ← (pure a.2.1); let y36 ← (do let x33 ← (pure touched25); let y34 ← (pure ()); pure (x33, y34)); pure (x35, y36)) >>= m_heads_of_blocks); let y38 ← (pure t14.2); pure (decide (x37 < y38))); if c39 then (do let t40 ← ((pure ("few" : Str)) >>= fun t41 => pure (Option.some t41)); pure (.rt t40)) else (pure (.nx (())))) : W (Fl (Option Str) Empty (Unit))) (fun s42 => (do let t43 ← ((pure ()) >>= fun _ => pure Option.none); pure (.rt t43))))))))))))
abbrev FD_fault_of_join (T : Tx) : Prop := FD T "fault_of_join" 2 ["region", "census", "division", "line"] (fun a : (Int × List (List Int × Int)) × (List Int) × (List (List Int)) × Int × Unit => [.q (KIns T "Region" (eReg a.1)), .d ((eL eI) a.2.1), .d ((eL (eL eI)) a.2.2.1), .d (eI a.2.2.2.1)]) (fun r : (Option Str) => .d ((eO eS) r)) m_fault_of_join

def m_fault_of_stops (a : Int × (List Int) × Unit) : W (Option Str) := runW (β := Empty) (σ := Unit) (seqW ((do let c4 ← (do let x2 ← (do let x1 ← (pure a.2.1); pure ((x1.length : Nat) : Int)); let y3 ← (pure (2 : Int)); pure (decide (x2 < y3))); if c4 then (do let t5 ← ((pure ("stops" : Str)) >>= fun t6 => pure (Option.some t6)); pure (.rt t5)) else (pure (.nx (())))) : W (Fl (Option Str) Empty (Unit))) (fun s7 => (seqW ((do let c15 ← (do let x14 ← (do let l13 ← (pure a.2.1); gd (l13.length < 100000); cmpW l13 (fun _ => pure true) fun x8 => (do let x12 ← (do let x9 ← (pure (0 : Int)); let y10 ← (pure x8); if decide (x9 ≤ y10) then (do let z11 ← (pure a.1); pure (decide (y10 < z11))) else pure false); pure (!x12))); pure (x14.any id)); if c15 then (do let t16 ← ((pure ("range" : Str)) >>= fun t17 => pure (Option.some t17)); pure (.rt t16)) else (pure (.nx (())))) : W (Fl (Option Str) Empty (Unit))) (fun s18 => (seqW ((do let c34 ← (do let x33 ← (do let l32 ← (do let n22 ← (do let x20 ← (do let x19 ← (pure a.2.1); pure ((x19.length : Nat) : Int)); let y21 ← (pure (1 : Int)); pure (x20 - y21)); gd (-(2 ^ 62) ≤ n22 ∧ n22 < 2 ^ 62); pure (rgI 0 n22)); gd (l32.length < 100000); cmpW l32 (fun _ => pure true) fun x23 => (do let x30 ← (do let x24 ← (pure a.2.1); let y25 ← (pure x23); getW x24 y25); let y31 ← (do let x28 ← (pure a.2.1); let y29 ← (do let x26 ← (pure x23); let y27 ← (pure (1 : Int)); pure (x26 + y27)); getW x28 y29); pure (decide (y31 ≤ x30)))); pure (x33.any id)); if c34 then (do let t35 ← ((pure ("order" : Str)) >>= fun t36 => pure (Option.some t36)); pure (.rt t35)) else (pure (.nx (())))) : W (Fl (Option Str) Empty (Unit))) (fun s37 => (do let t38 ← ((pure ()) >>= fun _ => pure Option.none); pure (.rt t38))))))))
abbrev FD_fault_of_stops (T : Tx) : Prop := FD T "fault_of_stops" 1 ["villages", "stops"] (fun a : Int × (List Int) × Unit => [.d (eI a.1), .d ((eT eI) a.2.1)]) (fun r : (Option Str) => .d ((eO eS) r)) m_fault_of_stops

def m_fault_of_line (a : Int × (List Int) × Int × Unit) : W (Option Str) := runW (β := Empty) (σ := Unit) (seqW (do let t5 ← ((do let x3 ← (pure a.1); let y4 ← (do let x1 ← (pure a.2.1); let y2 ← (pure ()); pure (x1, y2)); pure (x3, y4)) >>= m_fault_of_stops); pure (.nx t5)) (fun why6 => (seqW ((do let c11 ← (do let x10 ← (do let x7 ← (pure why6); pure x7.isNone); if x10 then (do let x8 ← (pure a.2.2.1); let y9 ← (pure (1 : Int)); pure (decide (x8 < y9))) else pure false); if c11 then (do let t12 ← ((pure ("number" : Str)) >>= fun t13 => pure (Option.some t13)); pure (.rt t12)) else (pure (.nx (())))) : W (Fl (Option Str) Empty (Unit))) (fun s14 => (do let t15 ← (pure why6); pure (.rt t15))))))
abbrev FD_fault_of_line (T : Tx) : Prop := FD T "fault_of_line" 2 ["villages", "stops", "number"] (fun a : Int × (List Int) × Int × Unit => [.d (eI a.1), .d ((eT eI) a.2.1), .d (eI a.2.2.1)]) (fun r : (Option Str) => .d ((eO eS) r)) m_fault_of_line

def m_Region_1 (a : Int × List (List Int × Int) × Unit) : W (Fl Unit Empty Unit) := ((((do let c3 ← (do let x1 ← (pure a.1); let y2 ← (pure (1 : Int)); pure (decide (x1 < y2))); if c3 then (gd False >>= fun _ => pure (.nx ())) else (pure (.nx (())))) : W (Fl Unit Empty (Unit)))) : W (Fl Unit Empty Unit))
def m_Region_2 (a : Int × List (List Int × Int) × Unit) : W (Fl Unit Empty Unit) := ((((do let l19 ← (do let l5 ← (pure a.2.1); pure (enumL l5)); forW l19 (()) (fun x7 s6 => (seqW (do let t14 ← ((do let x12 ← (pure a.1); let y13 ← (do let x10 ← (pure x7.2.1); let y11 ← (do let x8 ← (pure x7.2.2); let y9 ← (pure ()); pure (x8, y9)); pure (x10, y11)); pure (x12, y13)) >>= m_fault_of_line); pure (.nx t14)) (fun why15 => (seqW ((do let c17 ← (do let x16 ← (pure why15); pure x16.isSome); if c17 then (gd False >>= fun _ => pure (.nx ())) else (pure (.nx (())))) : W (Fl Unit (Unit) (Unit))) (fun s18 => (pure (.nx (()))))))))) : W (Fl Unit Empty (Unit)))) : W (Fl Unit Empty Unit))
def m_Region_3 (a : Int × List (List Int × Int) × Unit) : W (List (List Int × Int)) := (do let l25 ← (pure a.2.1); gd (l25.length < 100000); cmpW l25 (fun _ => pure true) fun x21 => (do let x23 ← (pure x21.1); let x24 ← (pure x21.2); pure (x23, x24)))
def nxP {ρ β σ : Type} (f : Fl ρ β σ) (p : Prop) : Prop := match f with
  | .nx _ => p
  | _ => False
def m_Region (a : Int × List (List Int × Int) × Unit) : W (Int × List (List Int × Int)) := fun Q => m_Region_1 a fun f1 => nxP f1 (m_Region_2 a fun f2 => nxP f2 (m_Region_3 a fun l => Q (a.1, l)))
abbrev FI_Region (T : Tx) : Prop := FI T "Region" 3 ["self", "villages", "lines"] (fun a : Int × List (List Int × Int) × Unit => [.d (eI a.1), .d (eL (eP (eT eI) eI) a.2.1)]) eReg m_Region

def m_is_together (a : (List (List Int)) × (List Int) × Unit) : W Bool := runW (β := Empty) (σ := Unit) (do let t1 ← (do let x7 ← (do let x6 ← ((do let x4 ← (pure a.1); let y5 ← (do let x2 ← (pure a.2.1); let y3 ← (pure ()); pure (x2, y3)); pure (x4, y5)) >>= m_touched_by); pure ((x6.length : Nat) : Int)); let y8 ← (pure (1 : Int)); pure (decide (x7 = y8))); pure (.rt t1))
abbrev FD_is_together (T : Tx) : Prop := FD T "is_together" 2 ["division", "party"] (fun a : (List (List Int)) × (List Int) × Unit => [.d ((eL (eL eI)) a.1), .d ((eT eI) a.2.1)]) (fun r : Bool => .d (eB r)) m_is_together

def m_fault_of_member (a : (Int × List (List Int × Int)) × (List Int) × (List (List Int)) × (List Int) × Int × Unit) : W (Option Str) := runW (β := Empty) (σ := Unit) (seqW ((do let c9 ← (do let x8 ← (do let x3 ← (pure (0 : Int)); let y4 ← (pure a.2.2.2.2.1); if decide (x3 ≤ y4) then (do let z5 ← (do let x2 ← ((pure a.1) >>= fun x1 => pure x1.2); pure ((x2.length : Nat) : Int)); pure (decide (y4 < z5))) else pure false); if x8 then (do let x6 ← (pure a.2.2.2.2.1); let y7 ← (pure a.2.2.2.1); pure (!decide (x6 ∈ y7))) else pure false); if c9 then (do let t10 ← ((pure ("other" : Str)) >>= fun t11 => pure (Option.some t11)); pure (.rt t10)) else (pure (.nx (())))) : W (Fl (Option Str) Empty (Unit))) (fun s12 => (do let t13 ← ((do let x20 ← (pure a.1); let y21 ← (do let x18 ← (pure a.2.1); let y19 ← (do let x16 ← (pure a.2.2.1); let y17 ← (do let x14 ← (pure a.2.2.2.2.1); let y15 ← (pure ()); pure (x14, y15)); pure (x16, y17)); pure (x18, y19)); pure (x20, y21)) >>= m_fault_of_join); pure (.rt t13))))
abbrev FD_fault_of_member (T : Tx) : Prop := FD T "fault_of_member" 3 ["region", "census", "division", "lines", "line"] (fun a : (Int × List (List Int × Int)) × (List Int) × (List (List Int)) × (List Int) × Int × Unit => [.q (KIns T "Region" (eReg a.1)), .d ((eL eI) a.2.1), .d ((eL (eL eI)) a.2.2.1), .d ((eT eI) a.2.2.2.1), .d (eI a.2.2.2.2.1)]) (fun r : (Option Str) => .d ((eO eS) r)) m_fault_of_member

def m_fault_of_row (a : (Int × List (List Int × Int)) × (List Int) × (List Int) × (List Int) × (List Int) × Unit) : W (Option (Int × Str)) := runW (β := Empty) (σ := Unit) (seqW (do let t4 ← ((do let x2 ← ((pure a.1) >>= fun x1 => pure x1.1); let y3 ← (pure ()); pure (x2, y3)) >>= m_singles); pure (.nx t4)) (fun division5 => (seqW ((do let l42 ← (do let l6 ← (pure a.2.2.2.2.1); pure (enumL l6)); forW l42 (division5, ()) (fun x8 s7 => (seqW (do let t19 ← ((do let x17 ← (pure a.1); let y18 ← (do let x15 ← (pure a.2.1); let y16 ← (do let x13 ← (pure s7.1); let y14 ← (do let x11 ← (pure a.2.2.2.1); let y12 ← (do let x9 ← (pure x8.2); let y10 ← (pure ()); pure (x9, y10)); pure (x11, y12)); pure (x13, y14)); pure (x15, y16)); pure (x17, y18)) >>= m_fault_of_member); pure (.nx t19)) (fun why20 => (seqW ((do let c22 ← (do let x21 ← (pure why20); pure x21.isSome); if c22 then (do let t23 ← ((do let x24 ← (pure x8.1); let x25 ← ((pure why20) >>= unOW); pure (x24, x25)) >>= fun t26 => pure (Option.some t26)); pure (.rt t23)) else (pure (.nx (())))) : W (Fl (Option (Int × Str)) ((List (List Int)) × Unit) (Unit))) (fun s27 => (seqW (do let t40 ← ((do let x38 ← (pure s7.1); let y39 ← (do let x36 ← ((do let x34 ← (pure s7.1); let y35 ← (do let x32 ← (do let x31 ← (do let x29 ← ((pure a.1) >>= fun x28 => pure x28.2); let y30 ← (pure x8.2); getW x29 y30); pure x31.1); let y33 ← (pure ()); pure (x32, y33)); pure (x34, y35)) >>= m_touched_by); let y37 ← (pure ()); pure (x36, y37)); pure (x38, y39)) >>= m_join_blocks); pure (.nx t40)) (fun division41 => (pure (.nx (division41, ()))))))))))) : W (Fl (Option (Int × Str)) Empty ((List (List Int)) × Unit))) (fun s43 => (seqW ((do let c49 ← (do let x48 ← ((do let x46 ← (pure s43.1); let y47 ← (do let x44 ← (pure a.2.2.1); let y45 ← (pure ()); pure (x44, y45)); pure (x46, y47)) >>= m_is_together); pure (!x48)); if c49 then (do let t50 ← ((do let x52 ← (do let x51 ← (pure a.2.2.2.2.1); pure ((x51.length : Nat) : Int)); let x53 ← (pure ("party" : Str)); pure (x52, x53)) >>= fun t54 => pure (Option.some t54)); pure (.rt t50)) else (pure (.nx (())))) : W (Fl (Option (Int × Str)) Empty (Unit))) (fun s55 => (do let t56 ← ((pure ()) >>= fun _ => pure Option.none); pure (.rt t56))))))))
abbrev FD_fault_of_row (T : Tx) : Prop := FD T "fault_of_row" 4 ["region", "census", "party", "lines", "row"] (fun a : (Int × List (List Int × Int)) × (List Int) × (List Int) × (List Int) × (List Int) × Unit => [.q (KIns T "Region" (eReg a.1)), .d ((eL eI) a.2.1), .d ((eT eI) a.2.2.1), .d ((eT eI) a.2.2.2.1), .d ((eL eI) a.2.2.2.2.1)]) (fun r : (Option (Int × Str)) => .d ((eO (eP eI eS)) r)) m_fault_of_row

def m_leaks (a : (Int × List (List Int × Int)) × (List Int) × (List (List Int)) × Int × Unit) : W Bool := runW (β := Empty) (σ := Unit) (seqW (do let t5 ← (do let x2 ← ((pure a.1) >>= fun x1 => pure x1.2); let y3 ← (pure a.2.2.2.1); getW x2 y3); pure (.nx t5)) (fun t4 => (seqW (do let t14 ← (do let l13 ← ((do let x8 ← (pure a.2.2.1); let y9 ← (do let x6 ← (pure t4.1); let y7 ← (pure ()); pure (x6, y7)); pure (x8, y9)) >>= m_touched_by); gd (l13.length < 100000); cmpW l13 (fun _ => pure true) fun x10 => (do let x11 ← (pure a.2.2.1); let y12 ← (pure x10); getW x11 y12)); pure (.nx t14)) (fun touched15 => (do let t16 ← (do let x26 ← (do let x18 ← (do let x17 ← (pure touched15); pure ((x17.length : Nat) : Int)); let y19 ← (pure (1 : Int)); pure (decide (y19 < x18))); if x26 then (do let x24 ← ((do let x22 ← (pure a.2.1); let y23 ← (do let x20 ← (pure touched15); let y21 ← (pure ()); pure (x20, y21)); pure (x22, y23)) >>= m_heads_of_blocks); let y25 ← (pure t4.2); pure (decide (y25 ≤ x24))) else pure false); pure (.rt t16))))))
abbrev FD_leaks (T : Tx) : Prop := FD T "leaks" 2 ["region", "census", "division", "line"] (fun a : (Int × List (List Int × Int)) × (List Int) × (List (List Int)) × Int × Unit => [.q (KIns T "Region" (eReg a.1)), .d ((eL eI) a.2.1), .d ((eL (eL eI)) a.2.2.1), .d (eI a.2.2.2.1)]) (fun r : Bool => .d (eB r)) m_leaks

def m_fault_of_split (a : (Int × List (List Int × Int)) × (List Int) × (List Int) × (List Int) × (List (List Int)) × Unit) : W (Option (Int × Str)) := runW (β := Empty) (σ := Unit) (seqW ((do let c7 ← (do let x6 ← ((do let x4 ← ((pure a.1) >>= fun x1 => pure x1.1); let y5 ← (do let x2 ← (pure a.2.2.2.2.1); let y3 ← (pure ()); pure (x2, y3)); pure (x4, y5)) >>= m_is_division); pure (!x6)); if c7 then (do let t8 ← ((do let x9 ← (pure (0 : Int)); let x10 ← (pure ("division" : Str)); pure (x9, x10)) >>= fun t11 => pure (Option.some t11)); pure (.rt t8)) else (pure (.nx (())))) : W (Fl (Option (Int × Str)) Empty (Unit))) (fun s12 => (seqW ((do let l29 ← (pure a.2.2.2.1); forW l29 (()) (fun x14 s13 => (seqW ((do let c23 ← ((do let x21 ← (pure a.1); let y22 ← (do let x19 ← (pure a.2.1); let y20 ← (do let x17 ← (pure a.2.2.2.2.1); let y18 ← (do let x15 ← (pure x14); let y16 ← (pure ()); pure (x15, y16)); pure (x17, y18)); pure (x19, y20)); pure (x21, y22)) >>= m_leaks); if c23 then (do let t24 ← ((do let x25 ← (pure x14); let x26 ← (pure ("open" : Str)); pure (x25, x26)) >>= fun t27 => pure (Option.some t27)); pure (.rt t24)) else (pure (.nx (())))) : W (Fl (Option (Int × Str)) (Unit) (Unit))) (fun s28 => (pure (.nx (()))))))) : W (Fl (Option (Int × Str)) Empty (Unit))) (fun s30 => (seqW ((do let c35 ← ((do let x33 ← (pure a.2.2.2.2.1); let y34 ← (do let x31 ← (pure a.2.2.1); let y32 ← (pure ()); pure (x31, y32)); pure (x33, y34)) >>= m_is_together); if c35 then (do let t36 ← ((do let x37 ← (pure (0 : Int)); let x38 ← (pure ("party" : Str)); pure (x37, x38)) >>= fun t39 => pure (Option.some t39)); pure (.rt t36)) else (pure (.nx (())))) : W (Fl (Option (Int × Str)) Empty (Unit))) (fun s40 => (do let t41 ← ((pure ()) >>= fun _ => pure Option.none); pure (.rt t41))))))))
abbrev FD_fault_of_split (T : Tx) : Prop := FD T "fault_of_split" 5 ["region", "census", "party", "lines", "division"] (fun a : (Int × List (List Int × Int)) × (List Int) × (List Int) × (List Int) × (List (List Int)) × Unit => [.q (KIns T "Region" (eReg a.1)), .d ((eL eI) a.2.1), .d ((eT eI) a.2.2.1), .d ((eT eI) a.2.2.2.1), .d ((eL (eL eI)) a.2.2.2.2.1)]) (fun r : (Option (Int × Str)) => .d ((eO (eP eI eS)) r)) m_fault_of_split

def m_fault_of_holding (a : (Int × List (List Int × Int)) × (List Int) × (List Int) × (List Int) × (Str × ((List Int) ⊕ (List (List Int)))) × Unit) : W (Option (Int × Str)) := runW (β := Empty) (σ := Unit) (seqW ((do let c4 ← (do let x2 ← (do let x1 ← (pure a.2.2.2.2.1); pure x1.1); let y3 ← (pure ("joins" : Str)); pure (decide (x2 = y3))); if c4 then (do let t5 ← ((do let x15 ← (pure a.1); let y16 ← (do let x13 ← (pure a.2.1); let y14 ← (do let x11 ← (pure a.2.2.1); let y12 ← (do let x9 ← (pure a.2.2.2.1); let y10 ← (do let x7 ← ((do let x6 ← (pure a.2.2.2.2.1); pure x6.2) >>= outlW); let y8 ← (pure ()); pure (x7, y8)); pure (x9, y10)); pure (x11, y12)); pure (x13, y14)); pure (x15, y16)) >>= m_fault_of_row); pure (.rt t5)) else (pure (.nx (())))) : W (Fl (Option (Int × Str)) Empty (Unit))) (fun s17 => (do let t18 ← ((do let x28 ← (pure a.1); let y29 ← (do let x26 ← (pure a.2.1); let y27 ← (do let x24 ← (pure a.2.2.1); let y25 ← (do let x22 ← (pure a.2.2.2.1); let y23 ← (do let x20 ← ((do let x19 ← (pure a.2.2.2.2.1); pure x19.2) >>= outrW); let y21 ← (pure ()); pure (x20, y21)); pure (x22, y23)); pure (x24, y25)); pure (x26, y27)); pure (x28, y29)) >>= m_fault_of_split); pure (.rt t18))))
abbrev FD_fault_of_holding (T : Tx) : Prop := FD T "fault_of_holding" 6 ["region", "census", "party", "lines", "paper"] (fun a : (Int × List (List Int × Int)) × (List Int) × (List Int) × (List Int) × (Str × ((List Int) ⊕ (List (List Int)))) × Unit => [.q (KIns T "Region" (eReg a.1)), .d ((eL eI) a.2.1), .d ((eT eI) a.2.2.1), .d ((eT eI) a.2.2.2.1), .d ((eP eS (eSum (eL eI) (eL (eL eI)))) a.2.2.2.2.1)]) (fun r : (Option (Int × Str)) => .d ((eO (eP eI eS)) r)) m_fault_of_holding

def m_law_stops (a : Int × Int × Unit) : W (List Int) := runW (β := Empty) (σ := Unit) (seqW (do let t11 ← (do let x9 ← (pure (2 : Int)); let y10 ← ((do let x7 ← (do let x5 ← (pure (1 : Int)); let y6 ← (do let x3 ← (do let x1 ← (pure a.2.1); let y2 ← (pure a.1); pure (min x1 y2)); let y4 ← (pure (1 : Int)); pure (x3 - y4)); pure (max x5 y6)); let y8 ← (pure ()); pure (x7, y8)) >>= m_law_draw); pure (x9 + y10)); pure (.nx t11)) (fun size12 => (seqW (do let t14 ← (do let x13 ← (pure a.1); gd (RgOk 0 x13); pure (rgI 0 x13)); pure (.nx t14)) (fun left15 => (seqW (do let t16 ← (pure []); pure (.nx t16)) (fun stops17 => (seqW ((do let l44 ← (do let n18 ← (pure size12); gd (-(2 ^ 62) ≤ n18 ∧ n18 < 2 ^ 62); pure (rgI 0 n18)); forW l44 (stops17, left15, ()) (fun x20 s19 => (seqW (do let t24 ← ((do let x22 ← (do let x21 ← (pure s19.2.1); pure ((x21.length : Nat) : Int)); let y23 ← (pure ()); pure (x22, y23)) >>= m_law_draw); pure (.nx t24)) (fun at25 => (seqW (do let t28 ← (do let x26 ← (pure s19.2.1); let y27 ← (pure at25); getW x26 y27); gd (s19.1.length < 100000); pure (.nx t28)) (fun t29 => (seqW (do let t42 ← (do let x40 ← (do let x31 ← (pure s19.2.1); let i32 ← (pure Option.none); let j33 ← (do let x30 ← (pure at25); pure (Option.some x30)); pure (cutL x31 i32 j33)); let y41 ← (do let x37 ← (pure s19.2.1); let i38 ← (do let x36 ← (do let x34 ← (pure at25); let y35 ← (pure (1 : Int)); pure (x34 + y35)); pure (Option.some x36)); let j39 ← (pure Option.none); pure (cutL x37 i38 j39)); gd (x40.length + y41.length ≤ 100000); pure (x40 ++ y41)); pure (.nx t42)) (fun left43 => (pure (.nx ((s19.1 ++ [t29]), left43, ()))))))))))) : W (Fl (List Int) Empty ((List Int) × (List Int) × Unit))) (fun s45 => (do let t46 ← (do let x47 ← (pure s45.1); pure (srtI x47)); pure (.rt t46))))))))))
abbrev FD_law_stops (T : Tx) : Prop := FD T "_law_stops" 2 ["pool", "villages", "widest"] (fun a : Int × Int × Unit => [.p, .d (eI a.1), .d (eI a.2.1)]) (fun r : (List Int) => .d ((eT eI) r)) m_law_stops

def m_law_great (a : Int × Unit) : W Int := runW (β := Empty) (σ := Unit) (seqW (do let t3 ← ((do let x1 ← (pure (8 : Int)); let y2 ← (pure ()); pure (x1, y2)) >>= m_law_draw); pure (.nx t3)) (fun way4 => (seqW ((do let c7 ← (do let x5 ← (pure way4); let y6 ← (pure (0 : Int)); pure (decide (x5 = y6))); if c7 then (do let t8 ← (pure a.1); pure (.rt t8)) else (pure (.nx (())))) : W (Fl Int Empty (Unit))) (fun s9 => (seqW ((do let c12 ← (do let x10 ← (pure way4); let y11 ← (pure (1 : Int)); pure (decide (x10 = y11))); if c12 then (do let t13 ← (do let x20 ← (pure (1 : Int)); let y21 ← (do let x18 ← (do let x14 ← (pure a.1); let y15 ← (pure (1 : Int)); pure (x14 - y15)); let y19 ← ((do let x16 ← (pure (3 : Int)); let y17 ← (pure ()); pure (x16, y17)) >>= m_law_draw); pure (x18 - y19)); pure (max x20 y21)); pure (.rt t13)) else (pure (.nx (())))) : W (Fl Int Empty (Unit))) (fun s22 => (seqW ((do let c25 ← (do let x23 ← (pure way4); let y24 ← (pure (2 : Int)); pure (decide (x23 = y24))); if c25 then (do let t26 ← (do let x38 ← (pure (1 : Int)); let y39 ← (do let x36 ← (do let x33 ← (do let x29 ← ((do let x27 ← (pure (1000000 : Int)); let y28 ← (pure ()); pure (x27, y28)) >>= m_law_draw); let y30 ← (pure (1000000 : Int)); gd (CMulW x29 y30); pure (x29 * y30)); let y34 ← ((do let x31 ← (pure (1000000 : Int)); let y32 ← (pure ()); pure (x31, y32)) >>= m_law_draw); pure (x33 + y34)); let y37 ← (pure a.1); gd (0 < y37); pure (x36 % y37)); pure (x38 + y39)); pure (.rt t26)) else (pure (.nx (())))) : W (Fl Int Empty (Unit))) (fun s40 => (do let t41 ← (do let x46 ← (pure (1 : Int)); let y47 ← ((do let x44 ← (do let x42 ← (pure (6 : Int)); let y43 ← (pure a.1); pure (min x42 y43)); let y45 ← (pure ()); pure (x44, y45)) >>= m_law_draw); pure (x46 + y47)); pure (.rt t41))))))))))
abbrev FD_law_great (T : Tx) : Prop := FD T "_law_great" 2 ["pool", "top"] (fun a : Int × Unit => [.p, .d (eI a.1)]) (fun r : Int => .d (eI r)) m_law_great

def m_law_mixed_row (a : Int × Unit) : W (List Int) := runW (β := Empty) (σ := Unit) (seqW (do let t2 ← (do let x1 ← (pure a.1); gd (RgOk 0 x1); pure (rgI 0 x1)); pure (.nx t2)) (fun left3 => (seqW (do let t4 ← (pure []); pure (.nx t4)) (fun row5 => (seqW ((do let l32 ← (do let n6 ← (pure a.1); gd (-(2 ^ 62) ≤ n6 ∧ n6 < 2 ^ 62); pure (rgI 0 n6)); forW l32 (row5, left3, ()) (fun x8 s7 => (seqW (do let t12 ← ((do let x10 ← (do let x9 ← (pure s7.2.1); pure ((x9.length : Nat) : Int)); let y11 ← (pure ()); pure (x10, y11)) >>= m_law_draw); pure (.nx t12)) (fun at13 => (seqW (do let t16 ← (do let x14 ← (pure s7.2.1); let y15 ← (pure at13); getW x14 y15); gd (s7.1.length < 100000); pure (.nx t16)) (fun t17 => (seqW (do let t30 ← (do let x28 ← (do let x19 ← (pure s7.2.1); let i20 ← (pure Option.none); let j21 ← (do let x18 ← (pure at13); pure (Option.some x18)); pure (cutL x19 i20 j21)); let y29 ← (do let x25 ← (pure s7.2.1); let i26 ← (do let x24 ← (do let x22 ← (pure at13); let y23 ← (pure (1 : Int)); pure (x22 + y23)); pure (Option.some x24)); let j27 ← (pure Option.none); pure (cutL x25 i26 j27)); gd (x28.length + y29.length ≤ 100000); pure (x28 ++ y29)); pure (.nx t30)) (fun left31 => (pure (.nx ((s7.1 ++ [t17]), left31, ()))))))))))) : W (Fl (List Int) Empty ((List Int) × (List Int) × Unit))) (fun s33 => (pure (.rt s33.1))))))))
abbrev FD_law_mixed_row (T : Tx) : Prop := FD T "_law_mixed_row" 2 ["pool", "many"] (fun a : Int × Unit => [.p, .d (eI a.1)]) (fun r : (List Int) => .l (r.map eI)) m_law_mixed_row

def m_law_labels (a : Int × (List ((List Int) × Int)) × (List Int) × Unit) : W (List Int) := runW (β := Empty) (σ := Unit) (seqW (do let t2 ← (do let x1 ← (pure a.1); gd (RgOk 0 x1); pure (rgI 0 x1)); pure (.nx t2)) (fun labels3 => (seqW ((do let l65 ← (do let n4 ← (pure a.1); gd (-(2 ^ 62) ≤ n4 ∧ n4 < 2 ^ 62); pure (rgI 0 n4)); forW l65 (labels3, ()) (fun x6 s5 => (seqW (do let t8 ← (pure s5.1); pure (.nx t8)) (fun before9 => (seqW ((do let l59 ← (pure a.2.1); forW l59 (s5.1, ()) (fun x11 s10 => (seqW (do let t18 ← (do let x17 ← (do let l16 ← (do let x12 ← (pure x11); pure x12.1); gd (l16.length < 100000); cmpW l16 (fun _ => pure true) fun x13 => (do let x14 ← (pure s10.1); let y15 ← (pure x13); getW x14 y15)); usetW x17); pure (.nx t18)) (fun marks19 => (seqW (do let t30 ← (do let x29 ← (do let l24 ← (do let n20 ← (pure a.1); gd (-(2 ^ 62) ≤ n20 ∧ n20 < 2 ^ 62); pure (rgI 0 n20)); gd (l24.length < 100000); cmpW l24 (fun x21 => (do let x27 ← (do let x25 ← (pure s10.1); let y26 ← (pure x21); getW x25 y26); let y28 ← (pure marks19); pure (decide (x27 ∈ y28)))) fun x21 => (do let x22 ← (pure a.2.2.1); let y23 ← (pure x21); getW x22 y23)); pure x29.sum); pure (.nx t30)) (fun total31 => (seqW ((do let c39 ← (do let x38 ← (do let x33 ← (do let x32 ← (pure marks19); pure ((x32.length : Nat) : Int)); let y34 ← (pure (1 : Int)); pure (decide (y34 < x33))); if x38 then (do let x36 ← (pure total31); let y37 ← (do let x35 ← (pure x11); pure x35.2); pure (decide (y37 ≤ x36))) else pure false); if c39 then (seqW (do let t56 ← (do let l55 ← (pure s10.1); gd (l55.length < 100000); cmpW l55 (fun _ => pure true) fun x49 => (do let x54 ← (do let x50 ← (pure x49); let y51 ← (pure marks19); pure (decide (x50 ∈ y51))); if x54 then (do let x52 ← (pure marks19); let y53 ← (pure (0 : Int)); getW x52 y53) else (pure x49))); pure (.nx t56)) (fun labels57 => (pure (.nx (labels57, ()))))) else (pure (.nx (s10.1, ())))) : W (Fl (List Int) ((List Int) × Unit) ((List Int) × Unit))) (fun s58 => (pure (.nx (s58.1, ()))))))))))) : W (Fl (List Int) ((List Int) × Unit) ((List Int) × Unit))) (fun s60 => (seqW ((do let c63 ← (do let x61 ← (pure s60.1); let y62 ← (pure before9); pure (decide (x61 = y62))); if c63 then (pure (.bk (s60.1, ()))) else (pure (.nx (())))) : W (Fl (List Int) ((List Int) × Unit) (Unit))) (fun s64 => (pure (.nx (s60.1, ()))))))))))) : W (Fl (List Int) Empty ((List Int) × Unit))) (fun s66 => (pure (.rt s66.1))))))
abbrev FD_law_labels (T : Tx) : Prop := FD T "_law_labels" 1 ["villages", "lines", "census"] (fun a : Int × (List ((List Int) × Int)) × (List Int) × Unit => [.d (eI a.1), .d ((eL (eP (eT eI) eI)) a.2.1), .d ((eL eI) a.2.2.1)]) (fun r : (List Int) => .l (r.map eI)) m_law_labels

def m_law_blocks (a : (List Int) × Unit) : W (List (List Int)) := runW (β := Empty) (σ := Unit) (do let t1 ← (do let l12 ← (do let x2 ← (pure a.1); usetW x2); gd (l12.length < 100000); cmpW l12 (fun _ => pure true) fun x3 => (do let l7 ← (do let n5 ← (do let x4 ← (pure a.1); pure ((x4.length : Nat) : Int)); gd (-(2 ^ 62) ≤ n5 ∧ n5 < 2 ^ 62); pure (rgI 0 n5)); gd (l7.length < 100000); cmpW l7 (fun x6 => (do let x10 ← (do let x8 ← (pure a.1); let y9 ← (pure x6); getW x8 y9); let y11 ← (pure x3); pure (decide (x10 = y11)))) fun x6 => (pure x6))); pure (.rt t1))
abbrev FD_law_blocks (T : Tx) : Prop := FD T "_law_blocks" 1 ["labels"] (fun a : (List Int) × Unit => [.d ((eL eI) a.1)]) (fun r : (List (List Int)) => .l (r.map (eL eI))) m_law_blocks

def m_law_parting (a : Int × (List Int) × Unit) : W (List Int) := runW (β := Empty) (σ := Unit) (seqW (do let t3 ← ((do let x1 ← (pure (5 : Int)); let y2 ← (pure ()); pure (x1, y2)) >>= m_law_draw); pure (.nx t3)) (fun way4 => (seqW ((do let c7 ← (do let x5 ← (pure way4); let y6 ← (pure (0 : Int)); pure (decide (x5 = y6))); if c7 then (do let t8 ← (pure a.2.1); pure (.rt t8)) else (pure (.nx (())))) : W (Fl (List Int) Empty (Unit))) (fun s10 => (seqW ((do let c13 ← (do let x11 ← (pure way4); let y12 ← (pure (1 : Int)); pure (decide (x11 = y12))); if c13 then (seqW (do let t18 ← (do let x16 ← (pure a.2.1); let y17 ← ((do let x14 ← (pure a.1); let y15 ← (pure ()); pure (x14, y15)) >>= m_law_draw); getW x16 y17); pure (.nx t18)) (fun one19 => (seqW (do let t24 ← (do let x22 ← (pure a.2.1); let y23 ← ((do let x20 ← (pure a.1); let y21 ← (pure ()); pure (x20, y21)) >>= m_law_draw); getW x22 y23); pure (.nx t24)) (fun two25 => (do let t26 ← (do let l40 ← (pure a.2.1); gd (l40.length < 100000); cmpW l40 (fun _ => pure true) fun x27 => (do let x39 ← (do let x35 ← (pure x27); let y36 ← (do let l34 ← (do let x32 ← (pure one19); let y33 ← (do let x30 ← (pure two25); let y31 ← (pure []); pure (x30 :: y31)); pure (x32 :: y33)); gd (l34.length ≤ 100000); pure l34); pure (decide (x35 ∈ y36))); if x39 then (do let x37 ← (pure one19); let y38 ← (pure two25); pure (min x37 y38)) else (pure x27))); pure (.rt t26)))))) else (pure (.nx (())))) : W (Fl (List Int) Empty (Unit))) (fun s41 => (seqW ((do let c44 ← (do let x42 ← (pure way4); let y43 ← (pure (2 : Int)); pure (decide (x42 = y43))); if c44 then (seqW (do let t47 ← ((do let x45 ← (pure a.1); let y46 ← (pure ()); pure (x45, y46)) >>= m_law_draw); pure (.nx t47)) (fun v48 => (seqW (do let t61 ← (do let l51 ← (do let n49 ← (pure a.1); gd (-(2 ^ 62) ≤ n49 ∧ n49 < 2 ^ 62); pure (rgI 0 n49)); gd (l51.length < 100000); cmpW l51 (fun x50 => (do let x60 ← (do let x56 ← (do let x52 ← (pure a.2.1); let y53 ← (pure x50); getW x52 y53); let y57 ← (do let x54 ← (pure a.2.1); let y55 ← (pure v48); getW x54 y55); pure (decide (x56 = y57))); if x60 then (do let x58 ← (pure x50); let y59 ← (pure v48); pure (!decide (x58 = y59))) else pure false)) fun x50 => (pure x50)); pure (.nx t61)) (fun rest62 => (seqW (do let t64 ← (pure a.2.1); pure (.nx t64)) (fun found65 => (seqW ((do let l74 ← (pure rest62); forW l74 (found65, ()) (fun x67 s66 => (seqW (do let t70 ← (do let x69 ← (pure rest62); minW x69); let k71 ← (pure x67); let l72 ← putW s66.1 k71 t70; pure (.nx l72)) (fun l73 => (pure (.nx (l73, ()))))))) : W (Fl (List Int) Empty ((List Int) × Unit))) (fun s75 => (seqW (do let t76 ← (pure v48); let k77 ← (pure v48); let l78 ← putW s75.1 k77 t76; pure (.nx l78)) (fun l79 => (pure (.rt l79)))))))))))) else (pure (.nx (())))) : W (Fl (List Int) Empty (Unit))) (fun s81 => (seqW (do let t87 ← (do let l86 ← (do let n82 ← (pure a.1); gd (-(2 ^ 62) ≤ n82 ∧ n82 < 2 ^ 62); pure (rgI 0 n82)); gd (l86.length < 100000); cmpW l86 (fun _ => pure true) fun x83 => ((do let x84 ← (pure a.1); let y85 ← (pure ()); pure (x84, y85)) >>= m_law_draw)); pure (.nx t87)) (fun marks88 => (do let t89 ← (do let l102 ← (do let n90 ← (pure a.1); gd (-(2 ^ 62) ≤ n90 ∧ n90 < 2 ^ 62); pure (rgI 0 n90)); gd (l102.length < 100000); cmpW l102 (fun _ => pure true) fun x91 => (do let x101 ← (do let l94 ← (do let n92 ← (pure a.1); gd (-(2 ^ 62) ≤ n92 ∧ n92 < 2 ^ 62); pure (rgI 0 n92)); gd (l94.length < 100000); cmpW l94 (fun x93 => (do let x99 ← (do let x95 ← (pure marks88); let y96 ← (pure x93); getW x95 y96); let y100 ← (do let x97 ← (pure marks88); let y98 ← (pure x91); getW x97 y98); pure (decide (x99 = y100)))) fun x93 => (pure x93)); minW x101)); pure (.rt t89))))))))))))
abbrev FD_law_parting (T : Tx) : Prop := FD T "_law_parting" 2 ["pool", "villages", "labels"] (fun a : Int × (List Int) × Unit => [.p, .d (eI a.1), .d ((eL eI) a.2.1)]) (fun r : (List Int) => .l (r.map eI)) m_law_parting

def m_law_is_division (a : Int × (List (List Int)) × Unit) : W Bool := runW (β := Empty) (σ := Unit) (seqW (do let t1 ← (pure []); pure (.nx t1)) (fun flat2 => (seqW ((do let l13 ← (pure a.2.1); forW l13 (flat2, ()) (fun x4 s3 => (seqW ((do let c8 ← (do let x6 ← (do let x5 ← (pure x4); pure ((x5.length : Nat) : Int)); let y7 ← (pure (0 : Int)); pure (decide (x6 = y7))); if c8 then (do let t9 ← (pure false); pure (.rt t9)) else (pure (.nx (())))) : W (Fl Bool ((List Int) × Unit) (Unit))) (fun s10 => (seqW (do let t11 ← (pure x4); gd (s3.1.length + t11.length ≤ 100000); pure (.nx t11)) (fun t12 => (pure (.nx ((s3.1 ++ t12), ()))))))))) : W (Fl Bool Empty ((List Int) × Unit))) (fun s14 => (do let t15 ← (do let x26 ← (do let x18 ← (do let x16 ← (pure s14.1); pure (srtI x16)); let y19 ← (do let x17 ← (pure a.1); gd (RgOk 0 x17); pure (rgI 0 x17)); pure (decide (x18 = y19))); if x26 then (do let x24 ← (pure a.2.1); let y25 ← (do let x23 ← (do let l22 ← (pure a.2.1); gd (l22.length < 100000); cmpW l22 (fun _ => pure true) fun x20 => (do let x21 ← (pure x20); pure (srtI x21))); pure (srtE (eL eI) x23)); pure (decide (x24 = y25))) else pure false); pure (.rt t15))))))
abbrev FD_law_is_division (T : Tx) : Prop := FD T "_law_is_division" 1 ["villages", "blocks"] (fun a : Int × (List (List Int)) × Unit => [.d (eI a.1), .d ((eL (eL eI)) a.2.1)]) (fun r : Bool => .d (eB r)) m_law_is_division

def m_law_marks (a : Int × (List (List Int)) × Unit) : W (List Int) := runW (β := Empty) (σ := Unit) (seqW (do let t4 ← (do let l3 ← (do let n1 ← (pure a.1); gd (-(2 ^ 62) ≤ n1 ∧ n1 < 2 ^ 62); pure (rgI 0 n1)); gd (l3.length < 100000); cmpW l3 (fun _ => pure true) fun x2 => (pure (0 : Int))); pure (.nx t4)) (fun marks5 => (seqW ((do let l20 ← (do let n7 ← (do let x6 ← (pure a.2.1); pure ((x6.length : Nat) : Int)); gd (-(2 ^ 62) ≤ n7 ∧ n7 < 2 ^ 62); pure (rgI 0 n7)); forW l20 (marks5, ()) (fun x9 s8 => (seqW ((do let l18 ← (do let x10 ← (pure a.2.1); let y11 ← (pure x9); getW x10 y11); forW l18 (s8.1, ()) (fun x13 s12 => (seqW (do let t14 ← (pure x9); let k15 ← (pure x13); let l16 ← putW s12.1 k15 t14; pure (.nx l16)) (fun l17 => (pure (.nx (l17, ()))))))) : W (Fl (List Int) ((List Int) × Unit) ((List Int) × Unit))) (fun s19 => (pure (.nx (s19.1, ()))))))) : W (Fl (List Int) Empty ((List Int) × Unit))) (fun s21 => (pure (.rt s21.1))))))
abbrev FD_law_marks (T : Tx) : Prop := FD T "_law_marks" 1 ["villages", "blocks"] (fun a : Int × (List (List Int)) × Unit => [.d (eI a.1), .d ((eL (eL eI)) a.2.1)]) (fun r : (List Int) => .l (r.map eI)) m_law_marks

def m_law_bent (a : Int × (List (List Int)) × Unit) : W (List (List Int)) := runW (β := Empty) (σ := Unit) (seqW (do let t3 ← ((do let x1 ← (pure (9 : Int)); let y2 ← (pure ()); pure (x1, y2)) >>= m_law_draw); pure (.nx t3)) (fun way4 => (seqW (do let t8 ← ((do let x6 ← (do let x5 ← (pure a.2.1); pure ((x5.length : Nat) : Int)); let y7 ← (pure ()); pure (x6, y7)) >>= m_law_draw); pure (.nx t8)) (fun at9 => (seqW (do let t12 ← ((do let x10 ← (pure a.1); let y11 ← (pure ()); pure (x10, y11)) >>= m_law_draw); pure (.nx t12)) (fun v13 => (seqW (do let t17 ← (do let l16 ← (pure a.2.1); gd (l16.length < 100000); cmpW l16 (fun _ => pure true) fun x14 => (pure x14)); pure (.nx t17)) (fun rows18 => (seqW ((do let c27 ← (do let x26 ← (do let x19 ← (pure way4); let y20 ← (pure (0 : Int)); pure (decide (x19 = y20))); if x26 then (do let x24 ← (do let x21 ← (pure at9); let y22 ← (pure (1 : Int)); pure (x21 + y22)); let y25 ← (do let x23 ← (pure rows18); pure ((x23.length : Nat) : Int)); pure (decide (x24 < y25))) else pure false); if c27 then (seqW (do let t130 ← (do let x180 ← (do let x172 ← (do let x158 ← (pure rows18); let i159 ← (pure Option.none); let j160 ← (do let x157 ← (pure at9); pure (Option.some x157)); pure (cutL x158 i159 j160)); let y173 ← (do let l171 ← (do let x169 ← (do let x163 ← (pure rows18); let y164 ← (do let x161 ← (pure at9); let y162 ← (pure (1 : Int)); pure (x161 + y162)); getW x163 y164); let y170 ← (do let x167 ← (do let x165 ← (pure rows18); let y166 ← (pure at9); getW x165 y166); let y168 ← (pure []); pure (x167 :: y168)); pure (x169 :: y170)); gd (l171.length ≤ 100000); pure l171); gd (x172.length + y173.length ≤ 100000); pure (x172 ++ y173)); let y181 ← (do let x177 ← (pure rows18); let i178 ← (do let x176 ← (do let x174 ← (pure at9); let y175 ← (pure (2 : Int)); pure (x174 + y175)); pure (Option.some x176)); let j179 ← (pure Option.none); pure (cutL x177 i178 j179)); gd (x180.length + y181.length ≤ 100000); pure (x180 ++ y181)); pure (.nx t130)) (fun rows131 => (pure (.nx (rows131, ()))))) else (pure (.nx (rows18, ())))) : W (Fl (List (List Int)) Empty ((List (List Int)) × Unit))) (fun s182 => (seqW ((do let c185 ← (do let x183 ← (pure way4); let y184 ← (pure (1 : Int)); pure (decide (x183 = y184))); if c185 then (seqW (do let t224 ← (do let l223 ← (do let n210 ← (do let x209 ← (do let x207 ← (pure s182.1); let y208 ← (pure at9); getW x207 y208); pure ((x209.length : Nat) : Int)); gd (-(2 ^ 62) ≤ n210 ∧ n210 < 2 ^ 62); pure (rgI 0 n210)); gd (l223.length < 100000); cmpW l223 (fun _ => pure true) fun x211 => (do let x221 ← (do let x212 ← (pure s182.1); let y213 ← (pure at9); getW x212 y213); let y222 ← (do let x219 ← (do let x217 ← (do let x216 ← (do let x214 ← (pure s182.1); let y215 ← (pure at9); getW x214 y215); pure ((x216.length : Nat) : Int)); let y218 ← (pure (1 : Int)); pure (x217 - y218)); let y220 ← (pure x211); pure (x219 - y220)); getW x221 y222)); let k225 ← (pure at9); let l226 ← putW s182.1 k225 t224; pure (.nx l226)) (fun l227 => (pure (.nx (l227, ()))))) else (pure (.nx (s182.1, ())))) : W (Fl (List (List Int)) Empty ((List (List Int)) × Unit))) (fun s228 => (seqW ((do let c231 ← (do let x229 ← (pure way4); let y230 ← (pure (2 : Int)); pure (decide (x229 = y230))); if c231 then (seqW (do let t252 ← (do let x251 ← (do let x249 ← (do let x244 ← (pure s228.1); let y245 ← (pure at9); getW x244 y245); let y250 ← (do let l248 ← (do let x246 ← (pure v13); let y247 ← (pure []); pure (x246 :: y247)); gd (l248.length ≤ 100000); pure l248); gd (x249.length + y250.length ≤ 100000); pure (x249 ++ y250)); pure (srtI x251)); let k253 ← (pure at9); let l254 ← putW s228.1 k253 t252; pure (.nx l254)) (fun l255 => (pure (.nx (l255, ()))))) else (pure (.nx (s228.1, ())))) : W (Fl (List (List Int)) Empty ((List (List Int)) × Unit))) (fun s256 => (seqW ((do let c259 ← (do let x257 ← (pure way4); let y258 ← (pure (3 : Int)); pure (decide (x257 = y258))); if c259 then (seqW (do let t274 ← (do let l273 ← (pure a.2.1); gd (l273.length < 100000); cmpW l273 (fun _ => pure true) fun x268 => (do let l270 ← (pure x268); gd (l270.length < 100000); cmpW l270 (fun x269 => (do let x271 ← (pure x269); let y272 ← (pure v13); pure (!decide (x271 = y272)))) fun x269 => (pure x269))); pure (.nx t274)) (fun rows275 => (pure (.nx (rows275, ()))))) else (pure (.nx (s256.1, ())))) : W (Fl (List (List Int)) Empty ((List (List Int)) × Unit))) (fun s276 => (seqW ((do let c279 ← (do let x277 ← (pure way4); let y278 ← (pure (4 : Int)); pure (decide (x277 = y278))); if c279 then (seqW (do let t342 ← (do let x372 ← (do let x366 ← (do let x360 ← (pure s276.1); let i361 ← (pure Option.none); let j362 ← (do let x359 ← (pure at9); pure (Option.some x359)); pure (cutL x360 i361 j362)); let y367 ← (do let l365 ← (do let x363 ← (pure []); let y364 ← (pure []); pure (x363 :: y364)); gd (l365.length ≤ 100000); pure l365); gd (x366.length + y367.length ≤ 100000); pure (x366 ++ y367)); let y373 ← (do let x369 ← (pure s276.1); let i370 ← (do let x368 ← (pure at9); pure (Option.some x368)); let j371 ← (pure Option.none); pure (cutL x369 i370 j371)); gd (x372.length + y373.length ≤ 100000); pure (x372 ++ y373)); pure (.nx t342)) (fun rows343 => (pure (.nx (rows343, ()))))) else (pure (.nx (s276.1, ())))) : W (Fl (List (List Int)) Empty ((List (List Int)) × Unit))) (fun s374 => (seqW ((do let c377 ← (do let x375 ← (pure way4); let y376 ← (pure (5 : Int)); pure (decide (x375 = y376))); if c377 then (seqW (do let t396 ← (do let x394 ← (do let x389 ← (pure s374.1); let y390 ← (pure at9); getW x389 y390); let y395 ← (do let l393 ← (do let x391 ← (pure a.1); let y392 ← (pure []); pure (x391 :: y392)); gd (l393.length ≤ 100000); pure l393); gd (x394.length + y395.length ≤ 100000); pure (x394 ++ y395)); let k397 ← (pure at9); let l398 ← putW s374.1 k397 t396; pure (.nx l398)) (fun l399 => (pure (.nx (l399, ()))))) else (pure (.nx (s374.1, ())))) : W (Fl (List (List Int)) Empty ((List (List Int)) × Unit))) (fun s400 => (seqW ((do let c403 ← (do let x401 ← (pure way4); let y402 ← (pure (6 : Int)); pure (decide (x401 = y402))); if c403 then (seqW (do let t442 ← (do let x460 ← (do let l459 ← (do let x457 ← (do let l456 ← (do let x454 ← (do let x453 ← (pure (1 : Int)); pure (-x453)); let y455 ← (pure []); pure (x454 :: y455)); gd (l456.length ≤ 100000); pure l456); let y458 ← (pure []); pure (x457 :: y458)); gd (l459.length ≤ 100000); pure l459); let y461 ← (pure s400.1); gd (x460.length + y461.length ≤ 100000); pure (x460 ++ y461)); pure (.nx t442)) (fun rows443 => (pure (.nx (rows443, ()))))) else (pure (.nx (s400.1, ())))) : W (Fl (List (List Int)) Empty ((List (List Int)) × Unit))) (fun s462 => (seqW ((do let c465 ← (do let x463 ← (pure way4); let y464 ← (pure (7 : Int)); pure (decide (x463 = y464))); if c465 then (seqW (do let t490 ← (do let l489 ← (pure a.2.1); gd (l489.length < 100000); cmpW l489 (fun _ => pure true) fun x479 => (do let l488 ← (pure x479); gd (l488.length < 100000); cmpW l488 (fun _ => pure true) fun x480 => (do let x486 ← (pure x480); let y487 ← (do let x484 ← (pure a.1); let y485 ← (do let x483 ← (do let x481 ← (pure x480); let y482 ← (pure v13); pure (decide (x481 = y482))); pure (if x483 then 1 else 0)); gd (CMulW x484 y485); pure (x484 * y485)); pure (x486 - y487)))); pure (.nx t490)) (fun rows491 => (pure (.nx (rows491, ()))))) else (pure (.nx (s462.1, ())))) : W (Fl (List (List Int)) Empty ((List (List Int)) × Unit))) (fun s492 => (pure (.rt s492.1))))))))))))))))))))))))))
abbrev FD_law_bent (T : Tx) : Prop := FD T "_law_bent" 2 ["pool", "villages", "blocks"] (fun a : Int × (List (List Int)) × Unit => [.p, .d (eI a.1), .d ((eL (eL eI)) a.2.1)]) (fun r : (List (List Int)) => .l (r.map (eL eI))) m_law_bent

def m_law_lines_by (a : Int × (List Int) × Int × Int × Int × Unit) : W (List ((List Int) × Int)) := runW (β := Empty) (σ := Unit) (seqW (do let t1 ← (pure []); pure (.nx t1)) (fun lines2 => (seqW ((do let l122 ← (do let n3 ← (pure a.2.2.1); gd (-(2 ^ 62) ≤ n3 ∧ n3 < 2 ^ 62); pure (rgI 0 n3)); forW l122 (lines2, ()) (fun x5 s4 => (seqW (do let t10 ← ((do let x8 ← (pure a.1); let y9 ← (do let x6 ← (pure a.2.2.2.1); let y7 ← (pure ()); pure (x6, y7)); pure (x8, y9)) >>= m_law_stops); pure (.nx t10)) (fun stops11 => (seqW (do let t18 ← ((do let x16 ← (pure a.1); let y17 ← (do let x14 ← (pure s4.1); let y15 ← (do let x12 ← (pure a.2.1); let y13 ← (pure ()); pure (x12, y13)); pure (x14, y15)); pure (x16, y17)) >>= m_law_labels); pure (.nx t18)) (fun labels19 => (seqW (do let t24 ← (do let l23 ← (pure stops11); gd (l23.length < 100000); cmpW l23 (fun _ => pure true) fun x20 => (do let x21 ← (pure labels19); let y22 ← (pure x20); getW x21 y22)); pure (.nx t24)) (fun marks25 => (seqW (do let t36 ← (do let x35 ← (do let l30 ← (do let n26 ← (pure a.1); gd (-(2 ^ 62) ≤ n26 ∧ n26 < 2 ^ 62); pure (rgI 0 n26)); gd (l30.length < 100000); cmpW l30 (fun x27 => (do let x33 ← (do let x31 ← (pure labels19); let y32 ← (pure x27); getW x31 y32); let y34 ← (pure marks25); pure (decide (x33 ∈ y34)))) fun x27 => (do let x28 ← (pure a.2.1); let y29 ← (pure x27); getW x28 y29)); pure x35.sum); pure (.nx t36)) (fun reach37 => (seqW (do let t40 ← ((do let x38 ← (pure (8 : Int)); let y39 ← (pure ()); pure (x38, y39)) >>= m_law_draw); pure (.nx t40)) (fun way41 => (seqW (do let t53 ← (do let x51 ← (pure (1 : Int)); let y52 ← ((do let x49 ← (do let x47 ← (do let x45 ← (do let x42 ← (pure a.2.1); pure x42.sum); let y46 ← (do let x43 ← (pure (10 : Int)); let y44 ← (pure (12 : Int)); gd (CPow x43 y44); pure (x43 ^ y44.toNat)); pure (min x45 y46)); let y48 ← (pure (2 : Int)); pure (x47 + y48)); let y50 ← (pure ()); pure (x49, y50)) >>= m_law_draw); pure (x51 + y52)); pure (.nx t53)) (fun number54 => (seqW ((do let c60 ← (do let x59 ← (do let x55 ← (pure way41); let y56 ← (pure (0 : Int)); pure (decide (x55 = y56))); if x59 then (do let x57 ← (pure a.2.2.2.2.1); let y58 ← (pure (0 : Int)); pure (decide (y58 < x57))) else pure false); if c60 then (seqW (do let t67 ← ((do let x65 ← (pure a.2.2.2.2.1); let y66 ← (pure ()); pure (x65, y66)) >>= m_law_great); pure (.nx t67)) (fun number68 => (pure (.nx (number68, ()))))) else (pure (.nx (number54, ())))) : W (Fl (List ((List Int) × Int)) ((List ((List Int) × Int)) × Unit) (Int × Unit))) (fun s69 => (seqW ((do let c75 ← (do let x74 ← (do let x70 ← (pure way41); let y71 ← (pure (1 : Int)); pure (decide (x70 = y71))); if x74 then pure true else (do let x72 ← (pure way41); let y73 ← (pure (2 : Int)); pure (decide (x72 = y73)))); if c75 then (seqW (do let t78 ← (pure reach37); pure (.nx t78)) (fun number79 => (pure (.nx (number79, ()))))) else (pure (.nx (s69.1, ())))) : W (Fl (List ((List Int) × Int)) ((List ((List Int) × Int)) × Unit) (Int × Unit))) (fun s80 => (seqW ((do let c83 ← (do let x81 ← (pure way41); let y82 ← (pure (3 : Int)); pure (decide (x81 = y82))); if c83 then (seqW (do let t90 ← (do let x88 ← (pure reach37); let y89 ← (pure (1 : Int)); pure (x88 + y89)); pure (.nx t90)) (fun number91 => (pure (.nx (number91, ()))))) else (pure (.nx (s80.1, ())))) : W (Fl (List ((List Int) × Int)) ((List ((List Int) × Int)) × Unit) (Int × Unit))) (fun s92 => (seqW ((do let c98 ← (do let x97 ← (do let x93 ← (pure way41); let y94 ← (pure (4 : Int)); pure (decide (y94 < x93))); if x97 then (do let x95 ← (pure reach37); let y96 ← (pure (0 : Int)); pure (decide (y96 < x95))) else pure false); if c98 then (seqW (do let t109 ← (do let x107 ← (pure (1 : Int)); let y108 ← ((do let x105 ← (pure reach37); let y106 ← (pure ()); pure (x105, y106)) >>= m_law_draw); pure (x107 + y108)); pure (.nx t109)) (fun number110 => (pure (.nx (number110, ()))))) else (pure (.nx (s92.1, ())))) : W (Fl (List ((List Int) × Int)) ((List ((List Int) × Int)) × Unit) (Int × Unit))) (fun s111 => (seqW (do let t120 ← (do let x118 ← (pure stops11); let x119 ← (do let x116 ← (pure (1 : Int)); let y117 ← (do let x114 ← (pure s111.1); let y115 ← (do let x112 ← (pure (10 : Int)); let y113 ← (pure (12 : Int)); gd (CPow x112 y113); pure (x112 ^ y113.toNat)); pure (min x114 y115)); pure (max x116 y117)); pure (x118, x119)); gd (s4.1.length < 100000); pure (.nx t120)) (fun t121 => (pure (.nx ((s4.1 ++ [t121]), ()))))))))))))))))))))))))))) : W (Fl (List ((List Int) × Int)) Empty ((List ((List Int) × Int)) × Unit))) (fun s123 => (pure (.rt s123.1))))))
abbrev FD_law_lines_by (T : Tx) : Prop := FD T "_law_lines_by" 3 ["pool", "villages", "census", "many", "widest", "top"] (fun a : Int × (List Int) × Int × Int × Int × Unit => [.p, .d (eI a.1), .d ((eL eI) a.2.1), .d (eI a.2.2.1), .d (eI a.2.2.2.1), .d (eI a.2.2.2.2.1)]) (fun r : (List ((List Int) × Int)) => .l (r.map (eP (eT eI) eI))) m_law_lines_by

def m_law_party (a : Int × Unit) : W (List Int) := runW (β := Empty) (σ := Unit) (seqW (do let t3 ← ((do let x1 ← (pure a.1); let y2 ← (pure ()); pure (x1, y2)) >>= m_law_mixed_row); pure (.nx t3)) (fun row4 => (do let t5 ← (do let x18 ← (do let x15 ← (pure row4); let i16 ← (pure Option.none); let j17 ← (do let x14 ← (do let x12 ← (pure (2 : Int)); let y13 ← ((do let x10 ← (do let x8 ← (pure (3 : Int)); let y9 ← (do let x6 ← (pure a.1); let y7 ← (pure (1 : Int)); pure (x6 - y7)); pure (min x8 y9)); let y11 ← (pure ()); pure (x10, y11)) >>= m_law_draw); pure (x12 + y13)); pure (Option.some x14)); pure (cutL x15 i16 j17)); pure (srtI x18)); pure (.rt t5))))
abbrev FD_law_party (T : Tx) : Prop := FD T "_law_party" 3 ["pool", "villages"] (fun a : Int × Unit => [.p, .d (eI a.1)]) (fun r : (List Int) => .d ((eT eI) r)) m_law_party

def m_law_county (a : Int × Unit) : W (Int × (List ((List Int) × Int)) × (List Int) × (List Int)) := runW (β := Empty) (σ := Unit) (seqW (do let t5 ← (do let x3 ← ((do let x1 ← (pure (8 : Int)); let y2 ← (pure ()); pure (x1, y2)) >>= m_law_draw); let y4 ← (pure (0 : Int)); pure (decide (x3 = y4))); pure (.nx t5)) (fun wide6 => (seqW (do let t28 ← (do let x26 ← (do let l23 ← (do let x21 ← (pure (2 : Int)); let y22 ← (do let x19 ← (pure (3 : Int)); let y20 ← (do let x17 ← (pure (3 : Int)); let y18 ← (do let x15 ← (pure (4 : Int)); let y16 ← (do let x13 ← (pure (4 : Int)); let y14 ← (do let x11 ← (pure (3 : Int)); let y12 ← (do let x9 ← (pure (5 : Int)); let y10 ← (do let x7 ← (pure (4 : Int)); let y8 ← (pure []); pure (x7 :: y8)); pure (x9 :: y10)); pure (x11 :: y12)); pure (x13 :: y14)); pure (x15 :: y16)); pure (x17 :: y18)); pure (x19 :: y20)); pure (x21 :: y22)); gd (l23.length ≤ 100000); pure l23); let y27 ← ((do let x24 ← (pure (8 : Int)); let y25 ← (pure ()); pure (x24, y25)) >>= m_law_draw); getW x26 y27); pure (.nx t28)) (fun villages29 => (seqW (do let t51 ← (do let x49 ← (do let l46 ← (do let x44 ← (pure (1 : Int)); let y45 ← (do let x42 ← (pure (2 : Int)); let y43 ← (do let x40 ← (pure (3 : Int)); let y41 ← (do let x38 ← (pure (3 : Int)); let y39 ← (do let x36 ← (pure (4 : Int)); let y37 ← (do let x34 ← (pure (4 : Int)); let y35 ← (do let x32 ← (pure (5 : Int)); let y33 ← (do let x30 ← (pure (0 : Int)); let y31 ← (pure []); pure (x30 :: y31)); pure (x32 :: y33)); pure (x34 :: y35)); pure (x36 :: y37)); pure (x38 :: y39)); pure (x40 :: y41)); pure (x42 :: y43)); pure (x44 :: y45)); gd (l46.length ≤ 100000); pure l46); let y50 ← ((do let x47 ← (pure (8 : Int)); let y48 ← (pure ()); pure (x47, y48)) >>= m_law_draw); getW x49 y50); pure (.nx t51)) (fun many52 => (seqW (do let t57 ← (do let x55 ← (pure (2 : Int)); let y56 ← ((do let x53 ← (pure (2 : Int)); let y54 ← (pure ()); pure (x53, y54)) >>= m_law_draw); pure (x55 + y56)); pure (.nx t57)) (fun widest58 => (seqW (do let t59 ← (pure (0 : Int)); pure (.nx t59)) (fun top60 => (seqW (do let t61 ← (pure []); pure (.nx t61)) (fun census62 => (seqW ((do let c63 ← (pure wide6); if c63 then (seqW (do let t113 ← (do let x111 ← (pure (2 : Int)); let y112 ← ((do let x109 ← (do let x107 ← (pure a.1); let y108 ← (pure (1 : Int)); pure (x107 - y108)); let y110 ← (pure ()); pure (x109, y110)) >>= m_law_draw); pure (x111 + y112)); pure (.nx t113)) (fun villages114 => (seqW (do let t117 ← ((do let x115 ← (pure (9 : Int)); let y116 ← (pure ()); pure (x115, y116)) >>= m_law_draw); pure (.nx t117)) (fun many118 => (seqW (do let t119 ← (pure (5 : Int)); pure (.nx t119)) (fun widest120 => (seqW (do let t123 ← (do let x121 ← (pure (10 : Int)); let y122 ← (pure (12 : Int)); gd (CPow x121 y122); pure (x121 ^ y122.toNat)); pure (.nx t123)) (fun top124 => (seqW ((do let l141 ← (do let n125 ← (pure villages114); gd (-(2 ^ 62) ≤ n125 ∧ n125 < 2 ^ 62); pure (rgI 0 n125)); forW l141 (census62, ()) (fun x127 s126 => (seqW (do let t139 ← (do let x137 ← ((do let x130 ← (do let x128 ← (pure (10 : Int)); let y129 ← (pure (14 : Int)); gd (CPow x128 y129); pure (x128 ^ y129.toNat)); let y131 ← (pure ()); pure (x130, y131)) >>= m_law_great); let y138 ← (do let x136 ← (do let x134 ← ((do let x132 ← (pure (3 : Int)); let y133 ← (pure ()); pure (x132, y133)) >>= m_law_draw); let y135 ← (pure (0 : Int)); pure (decide (y135 < x134))); pure (if x136 then 1 else 0)); gd (CMulW x137 y138); pure (x137 * y138)); gd (s126.1.length < 100000); pure (.nx t139)) (fun t140 => (pure (.nx ((s126.1 ++ [t140]), ()))))))) : W (Fl (Int × (List ((List Int) × Int)) × (List Int) × (List Int)) Empty ((List Int) × Unit))) (fun s142 => (pure (.nx (villages114, many118, widest120, top124, s142.1, ()))))))))))))) else (seqW (do let t148 ← (do let l147 ← (do let n143 ← (pure villages29); gd (-(2 ^ 62) ≤ n143 ∧ n143 < 2 ^ 62); pure (rgI 0 n143)); gd (l147.length < 100000); cmpW l147 (fun _ => pure true) fun x144 => ((do let x145 ← (pure (5 : Int)); let y146 ← (pure ()); pure (x145, y146)) >>= m_law_draw)); pure (.nx t148)) (fun census149 => (pure (.nx (villages29, many52, widest58, top60, census149, ())))))) : W (Fl (Int × (List ((List Int) × Int)) × (List Int) × (List Int)) Empty (Int × Int × Int × Int × (List Int) × Unit))) (fun s150 => (seqW (do let t161 ← ((do let x159 ← (pure s150.1); let y160 ← (do let x157 ← (pure s150.2.2.2.2.1); let y158 ← (do let x155 ← (pure s150.2.1); let y156 ← (do let x153 ← (pure s150.2.2.1); let y154 ← (do let x151 ← (pure s150.2.2.2.1); let y152 ← (pure ()); pure (x151, y152)); pure (x153, y154)); pure (x155, y156)); pure (x157, y158)); pure (x159, y160)) >>= m_law_lines_by); pure (.nx t161)) (fun lines162 => (do let t163 ← (do let x166 ← (pure s150.1); let x167 ← (pure lines162); let x168 ← (pure s150.2.2.2.2.1); let x169 ← ((do let x164 ← (pure s150.1); let y165 ← (pure ()); pure (x164, y165)) >>= m_law_party); pure (x166, x167, x168, x169)); pure (.rt t163))))))))))))))))))
abbrev FD_law_county (T : Tx) : Prop := FD T "_law_county" 4 ["pool", "most"] (fun a : Int × Unit => [.p, .d (eI a.1)]) (fun r : (Int × (List ((List Int) × Int)) × (List Int) × (List Int)) => .d ((eP4 eI (eL (eP (eT eI) eI)) (eL eI) (eT eI)) r)) m_law_county

def m_law_some_lines (a : (List ((List Int) × Int)) × (List Int) × Unit) : W (List ((List Int) × Int)) := runW (β := Empty) (σ := Unit) (do let t1 ← (do let l5 ← (pure a.2.1); gd (l5.length < 100000); cmpW l5 (fun _ => pure true) fun x2 => (do let x3 ← (pure a.1); let y4 ← (pure x2); getW x3 y4)); pure (.rt t1))
abbrev FD_law_some_lines (T : Tx) : Prop := FD T "_law_some_lines" 1 ["lines", "row"] (fun a : (List ((List Int) × Int)) × (List Int) × Unit => [.d ((eL (eP (eT eI) eI)) a.1), .d ((eT eI) a.2.1)]) (fun r : (List ((List Int) × Int)) => .l (r.map (eP (eT eI) eI))) m_law_some_lines

def m_law_together (a : (List Int) × (List Int) × Unit) : W Bool := runW (β := Empty) (σ := Unit) (do let t1 ← (do let x7 ← (do let x6 ← (do let l5 ← (pure a.2.1); gd (l5.length < 100000); cmpW l5 (fun _ => pure true) fun x2 => (do let x3 ← (pure a.1); let y4 ← (pure x2); getW x3 y4)); lensetW x6); let y8 ← (pure (1 : Int)); pure (decide (x7 = y8))); pure (.rt t1))
abbrev FD_law_together (T : Tx) : Prop := FD T "_law_together" 1 ["labels", "party"] (fun a : (List Int) × (List Int) × Unit => [.d ((eL eI) a.1), .d ((eT eI) a.2.1)]) (fun r : Bool => .d (eB r)) m_law_together

def m_law_row_fault (a : Int × (List ((List Int) × Int)) × (List Int) × (List Int) × (List Int) × (List Int) × Unit) : W (Option (Int × Str)) := runW (β := Empty) (σ := Unit) (seqW (do let t2 ← (do let x1 ← (pure a.1); gd (RgOk 0 x1); pure (rgI 0 x1)); pure (.nx t2)) (fun labels3 => (seqW ((do let l80 ← (do let n5 ← (do let x4 ← (pure a.2.2.2.2.2.1); pure ((x4.length : Nat) : Int)); gd (-(2 ^ 62) ≤ n5 ∧ n5 < 2 ^ 62); pure (rgI 0 n5)); forW l80 (labels3, ()) (fun x7 s6 => (seqW (do let t10 ← (do let x8 ← (pure a.2.2.2.2.2.1); let y9 ← (pure x7); getW x8 y9); pure (.nx t10)) (fun at11 => (seqW ((do let c17 ← (do let x16 ← (do let x13 ← (pure (0 : Int)); let y14 ← (pure at11); if decide (x13 ≤ y14) then (do let z15 ← (do let x12 ← (pure a.2.1); pure ((x12.length : Nat) : Int)); pure (decide (y14 < z15))) else pure false); pure (!x16)); if c17 then (do let t18 ← ((do let x19 ← (pure x7); let x20 ← (pure ("line" : Str)); pure (x19, x20)) >>= fun t21 => pure (Option.some t21)); pure (.rt t18)) else (pure (.nx (())))) : W (Fl (Option (Int × Str)) ((List Int) × Unit) (Unit))) (fun s22 => (seqW ((do let c25 ← (do let x23 ← (pure at11); let y24 ← (pure a.2.2.2.2.1); pure (!decide (x23 ∈ y24))); if c25 then (do let t26 ← ((do let x27 ← (pure x7); let x28 ← (pure ("other" : Str)); pure (x27, x28)) >>= fun t29 => pure (Option.some t29)); pure (.rt t26)) else (pure (.nx (())))) : W (Fl (Option (Int × Str)) ((List Int) × Unit) (Unit))) (fun s30 => (seqW (do let t39 ← (do let x38 ← (do let l37 ← (do let x33 ← (do let x31 ← (pure a.2.1); let y32 ← (pure at11); getW x31 y32); pure x33.1); gd (l37.length < 100000); cmpW l37 (fun _ => pure true) fun x34 => (do let x35 ← (pure s6.1); let y36 ← (pure x34); getW x35 y36)); usetW x38); pure (.nx t39)) (fun marks40 => (seqW ((do let c44 ← (do let x42 ← (do let x41 ← (pure marks40); pure ((x41.length : Nat) : Int)); let y43 ← (pure (2 : Int)); pure (decide (x42 < y43))); if c44 then (do let t45 ← ((do let x46 ← (pure x7); let x47 ← (pure ("one" : Str)); pure (x46, x47)) >>= fun t48 => pure (Option.some t48)); pure (.rt t45)) else (pure (.nx (())))) : W (Fl (Option (Int × Str)) ((List Int) × Unit) (Unit))) (fun s49 => (seqW ((do let c65 ← (do let x63 ← (do let x59 ← (do let l54 ← (do let n50 ← (pure a.1); gd (-(2 ^ 62) ≤ n50 ∧ n50 < 2 ^ 62); pure (rgI 0 n50)); gd (l54.length < 100000); cmpW l54 (fun x51 => (do let x57 ← (do let x55 ← (pure s6.1); let y56 ← (pure x51); getW x55 y56); let y58 ← (pure marks40); pure (decide (x57 ∈ y58)))) fun x51 => (do let x52 ← (pure a.2.2.1); let y53 ← (pure x51); getW x52 y53)); pure x59.sum); let y64 ← (do let x62 ← (do let x60 ← (pure a.2.1); let y61 ← (pure at11); getW x60 y61); pure x62.2); pure (decide (x63 < y64))); if c65 then (do let t66 ← ((do let x67 ← (pure x7); let x68 ← (pure ("few" : Str)); pure (x67, x68)) >>= fun t69 => pure (Option.some t69)); pure (.rt t66)) else (pure (.nx (())))) : W (Fl (Option (Int × Str)) ((List Int) × Unit) (Unit))) (fun s70 => (seqW (do let t78 ← (do let l77 ← (pure s6.1); gd (l77.length < 100000); cmpW l77 (fun _ => pure true) fun x71 => (do let x76 ← (do let x72 ← (pure x71); let y73 ← (pure marks40); pure (decide (x72 ∈ y73))); if x76 then (do let x74 ← (pure marks40); let y75 ← (pure (0 : Int)); getW x74 y75) else (pure x71))); pure (.nx t78)) (fun labels79 => (pure (.nx (labels79, ()))))))))))))))))))) : W (Fl (Option (Int × Str)) Empty ((List Int) × Unit))) (fun s81 => (seqW ((do let c87 ← (do let x86 ← ((do let x84 ← (pure s81.1); let y85 ← (do let x82 ← (pure a.2.2.2.1); let y83 ← (pure ()); pure (x82, y83)); pure (x84, y85)) >>= m_law_together); pure (!x86)); if c87 then (do let t88 ← ((do let x90 ← (do let x89 ← (pure a.2.2.2.2.2.1); pure ((x89.length : Nat) : Int)); let x91 ← (pure ("party" : Str)); pure (x90, x91)) >>= fun t92 => pure (Option.some t92)); pure (.rt t88)) else (pure (.nx (())))) : W (Fl (Option (Int × Str)) Empty (Unit))) (fun s93 => (do let t94 ← ((pure ()) >>= fun _ => pure Option.none); pure (.rt t94))))))))
abbrev FD_law_row_fault (T : Tx) : Prop := FD T "_law_row_fault" 2 ["villages", "lines", "census", "party", "chosen", "row"] (fun a : Int × (List ((List Int) × Int)) × (List Int) × (List Int) × (List Int) × (List Int) × Unit => [.d (eI a.1), .d ((eL (eP (eT eI) eI)) a.2.1), .d ((eL eI) a.2.2.1), .d ((eT eI) a.2.2.2.1), .d ((eT eI) a.2.2.2.2.1), .d ((eL eI) a.2.2.2.2.2.1)]) (fun r : (Option (Int × Str)) => .d ((eO (eP eI eS)) r)) m_law_row_fault

def m_law_split_fault (a : Int × (List ((List Int) × Int)) × (List Int) × (List Int) × (List Int) × (List (List Int)) × Unit) : W (Option (Int × Str)) := runW (β := Empty) (σ := Unit) (seqW ((do let c6 ← (do let x5 ← ((do let x3 ← (pure a.1); let y4 ← (do let x1 ← (pure a.2.2.2.2.2.1); let y2 ← (pure ()); pure (x1, y2)); pure (x3, y4)) >>= m_law_is_division); pure (!x5)); if c6 then (do let t7 ← ((do let x8 ← (pure (0 : Int)); let x9 ← (pure ("division" : Str)); pure (x8, x9)) >>= fun t10 => pure (Option.some t10)); pure (.rt t7)) else (pure (.nx (())))) : W (Fl (Option (Int × Str)) Empty (Unit))) (fun s11 => (seqW (do let t16 ← ((do let x14 ← (pure a.1); let y15 ← (do let x12 ← (pure a.2.2.2.2.2.1); let y13 ← (pure ()); pure (x12, y13)); pure (x14, y15)) >>= m_law_marks); pure (.nx t16)) (fun marks17 => (seqW ((do let l55 ← (pure a.2.2.2.2.1); forW l55 (()) (fun x19 s18 => (seqW (do let t28 ← (do let x27 ← (do let l26 ← (do let x22 ← (do let x20 ← (pure a.2.1); let y21 ← (pure x19); getW x20 y21); pure x22.1); gd (l26.length < 100000); cmpW l26 (fun _ => pure true) fun x23 => (do let x24 ← (pure marks17); let y25 ← (pure x23); getW x24 y25)); usetW x27); pure (.nx t28)) (fun hit29 => (seqW ((do let c49 ← (do let x48 ← (do let x31 ← (do let x30 ← (pure hit29); pure ((x30.length : Nat) : Int)); let y32 ← (pure (1 : Int)); pure (decide (y32 < x31))); if x48 then (do let x46 ← (do let x42 ← (do let l37 ← (do let n33 ← (pure a.1); gd (-(2 ^ 62) ≤ n33 ∧ n33 < 2 ^ 62); pure (rgI 0 n33)); gd (l37.length < 100000); cmpW l37 (fun x34 => (do let x40 ← (do let x38 ← (pure marks17); let y39 ← (pure x34); getW x38 y39); let y41 ← (pure hit29); pure (decide (x40 ∈ y41)))) fun x34 => (do let x35 ← (pure a.2.2.1); let y36 ← (pure x34); getW x35 y36)); pure x42.sum); let y47 ← (do let x45 ← (do let x43 ← (pure a.2.1); let y44 ← (pure x19); getW x43 y44); pure x45.2); pure (decide (y47 ≤ x46))) else pure false); if c49 then (do let t50 ← ((do let x51 ← (pure x19); let x52 ← (pure ("open" : Str)); pure (x51, x52)) >>= fun t53 => pure (Option.some t53)); pure (.rt t50)) else (pure (.nx (())))) : W (Fl (Option (Int × Str)) (Unit) (Unit))) (fun s54 => (pure (.nx (()))))))))) : W (Fl (Option (Int × Str)) Empty (Unit))) (fun s56 => (seqW ((do let c61 ← ((do let x59 ← (pure marks17); let y60 ← (do let x57 ← (pure a.2.2.2.1); let y58 ← (pure ()); pure (x57, y58)); pure (x59, y60)) >>= m_law_together); if c61 then (do let t62 ← ((do let x63 ← (pure (0 : Int)); let x64 ← (pure ("party" : Str)); pure (x63, x64)) >>= fun t65 => pure (Option.some t65)); pure (.rt t62)) else (pure (.nx (())))) : W (Fl (Option (Int × Str)) Empty (Unit))) (fun s66 => (do let t67 ← ((pure ()) >>= fun _ => pure Option.none); pure (.rt t67))))))))))
abbrev FD_law_split_fault (T : Tx) : Prop := FD T "_law_split_fault" 2 ["villages", "lines", "census", "party", "chosen", "blocks"] (fun a : Int × (List ((List Int) × Int)) × (List Int) × (List Int) × (List Int) × (List (List Int)) × Unit => [.d (eI a.1), .d ((eL (eP (eT eI) eI)) a.2.1), .d ((eL eI) a.2.2.1), .d ((eT eI) a.2.2.2.1), .d ((eT eI) a.2.2.2.2.1), .d ((eL (eL eI)) a.2.2.2.2.2.1)]) (fun r : (Option (Int × Str)) => .d ((eO (eP eI eS)) r)) m_law_split_fault

def m_law_joining (a : Int × (List ((List Int) × Int)) × (List Int) × (List Int) × Unit) : W (List Int) := runW (β := Empty) (σ := Unit) (seqW (do let t2 ← (do let x1 ← (pure a.1); gd (RgOk 0 x1); pure (rgI 0 x1)); pure (.nx t2)) (fun labels3 => (seqW (do let t4 ← (pure []); pure (.nx t4)) (fun row5 => (seqW ((do let l84 ← (do let n6 ← (pure a.1); gd (-(2 ^ 62) ≤ n6 ∧ n6 < 2 ^ 62); pure (rgI 0 n6)); forW l84 (labels3, row5, ()) (fun x8 s7 => (seqW (do let t9 ← (pure []); pure (.nx t9)) (fun able10 => (seqW ((do let l48 ← (pure a.2.2.2.1); forW l48 (able10, ()) (fun x12 s11 => (seqW (do let t21 ← (do let x20 ← (do let l19 ← (do let x15 ← (do let x13 ← (pure a.2.1); let y14 ← (pure x12); getW x13 y14); pure x15.1); gd (l19.length < 100000); cmpW l19 (fun _ => pure true) fun x16 => (do let x17 ← (pure s7.1); let y18 ← (pure x16); getW x17 y18)); usetW x20); pure (.nx t21)) (fun marks22 => (seqW ((do let c42 ← (do let x41 ← (do let x24 ← (do let x23 ← (pure marks22); pure ((x23.length : Nat) : Int)); let y25 ← (pure (1 : Int)); pure (decide (y25 < x24))); if x41 then (do let x39 ← (do let x35 ← (do let l30 ← (do let n26 ← (pure a.1); gd (-(2 ^ 62) ≤ n26 ∧ n26 < 2 ^ 62); pure (rgI 0 n26)); gd (l30.length < 100000); cmpW l30 (fun x27 => (do let x33 ← (do let x31 ← (pure s7.1); let y32 ← (pure x27); getW x31 y32); let y34 ← (pure marks22); pure (decide (x33 ∈ y34)))) fun x27 => (do let x28 ← (pure a.2.2.1); let y29 ← (pure x27); getW x28 y29)); pure x35.sum); let y40 ← (do let x38 ← (do let x36 ← (pure a.2.1); let y37 ← (pure x12); getW x36 y37); pure x38.2); pure (decide (y40 ≤ x39))) else pure false); if c42 then (seqW (do let t45 ← (pure x12); gd (s11.1.length < 100000); pure (.nx t45)) (fun t46 => (pure (.nx ((s11.1 ++ [t46]), ()))))) else (pure (.nx (s11.1, ())))) : W (Fl (List Int) ((List Int) × Unit) ((List Int) × Unit))) (fun s47 => (pure (.nx (s47.1, ()))))))))) : W (Fl (List Int) ((List Int) × (List Int) × Unit) ((List Int) × Unit))) (fun s49 => (seqW ((do let c53 ← (do let x51 ← (do let x50 ← (pure s49.1); pure ((x50.length : Nat) : Int)); let y52 ← (pure (0 : Int)); pure (decide (x51 = y52))); if c53 then (pure (.rt s7.2.1)) else (pure (.nx (())))) : W (Fl (List Int) ((List Int) × (List Int) × Unit) (Unit))) (fun s55 => (seqW (do let t61 ← (do let x59 ← (pure s49.1); let y60 ← ((do let x57 ← (do let x56 ← (pure s49.1); pure ((x56.length : Nat) : Int)); let y58 ← (pure ()); pure (x57, y58)) >>= m_law_draw); getW x59 y60); pure (.nx t61)) (fun at62 => (seqW (do let t71 ← (do let x70 ← (do let l69 ← (do let x65 ← (do let x63 ← (pure a.2.1); let y64 ← (pure at62); getW x63 y64); pure x65.1); gd (l69.length < 100000); cmpW l69 (fun _ => pure true) fun x66 => (do let x67 ← (pure s7.1); let y68 ← (pure x66); getW x67 y68)); usetW x70); pure (.nx t71)) (fun marks72 => (seqW (do let t80 ← (do let l79 ← (pure s7.1); gd (l79.length < 100000); cmpW l79 (fun _ => pure true) fun x73 => (do let x78 ← (do let x74 ← (pure x73); let y75 ← (pure marks72); pure (decide (x74 ∈ y75))); if x78 then (do let x76 ← (pure marks72); let y77 ← (pure (0 : Int)); getW x76 y77) else (pure x73))); pure (.nx t80)) (fun labels81 => (seqW (do let t82 ← (pure at62); gd (s7.2.1.length < 100000); pure (.nx t82)) (fun t83 => (pure (.nx (labels81, (s7.2.1 ++ [t83]), ()))))))))))))))))))) : W (Fl (List Int) Empty ((List Int) × (List Int) × Unit))) (fun s85 => (pure (.rt s85.2.1))))))))
abbrev FD_law_joining (T : Tx) : Prop := FD T "_law_joining" 2 ["pool", "villages", "lines", "census", "chosen"] (fun a : Int × (List ((List Int) × Int)) × (List Int) × (List Int) × Unit => [.p, .d (eI a.1), .d ((eL (eP (eT eI) eI)) a.2.1), .d ((eL eI) a.2.2.1), .d ((eT eI) a.2.2.2.1)]) (fun r : (List Int) => .l (r.map eI)) m_law_joining

def m_law_rows (a : Int × (List ((List Int) × Int)) × (List Int) × (List Int) × Unit) : W (List (List Int)) := runW (β := Empty) (σ := Unit) (seqW (do let t9 ← ((do let x7 ← (pure a.1); let y8 ← (do let x5 ← (pure a.2.1); let y6 ← (do let x3 ← (pure a.2.2.1); let y4 ← (do let x1 ← (pure a.2.2.2.1); let y2 ← (pure ()); pure (x1, y2)); pure (x3, y4)); pure (x5, y6)); pure (x7, y8)) >>= m_law_joining); pure (.nx t9)) (fun row10 => (seqW (do let t16 ← ((do let x14 ← (do let x12 ← (do let x11 ← (pure row10); pure ((x11.length : Nat) : Int)); let y13 ← (pure (1 : Int)); pure (x12 + y13)); let y15 ← (pure ()); pure (x14, y15)) >>= m_law_draw); pure (.nx t16)) (fun at17 => (seqW (do let t28 ← (do let x26 ← ((do let x23 ← (do let x21 ← (do let x19 ← (pure (2 : Int)); let y20 ← (do let x18 ← (pure a.2.1); pure ((x18.length : Nat) : Int)); gd (CMulW x19 y20); pure (x19 * y20)); let y22 ← (pure (2 : Int)); pure (x21 + y22)); let y24 ← (pure ()); pure (x23, y24)) >>= m_law_draw); let y27 ← (do let x25 ← (pure a.2.1); pure ((x25.length : Nat) : Int)); pure (x26 - y27)); pure (.nx t28)) (fun wild29 => (seqW (do let t89 ← (do let l88 ← (do let x86 ← (pure row10); let y87 ← (do let x84 ← (do let x31 ← (pure row10); let i32 ← (pure Option.none); let j33 ← (do let x30 ← (pure at17); pure (Option.some x30)); pure (cutL x31 i32 j33)); let y85 ← (do let x82 ← (do let x47 ← (do let x41 ← (do let x35 ← (pure row10); let i36 ← (pure Option.none); let j37 ← (do let x34 ← (pure at17); pure (Option.some x34)); pure (cutL x35 i36 j37)); let y42 ← (do let l40 ← (do let x38 ← (pure wild29); let y39 ← (pure []); pure (x38 :: y39)); gd (l40.length ≤ 100000); pure l40); gd (x41.length + y42.length ≤ 100000); pure (x41 ++ y42)); let y48 ← (do let x44 ← (pure row10); let i45 ← (do let x43 ← (pure at17); pure (Option.some x43)); let j46 ← (pure Option.none); pure (cutL x44 i45 j46)); gd (x47.length + y48.length ≤ 100000); pure (x47 ++ y48)); let y83 ← (do let x80 ← (do let x64 ← (do let x56 ← (do let x50 ← (pure row10); let i51 ← (pure Option.none); let j52 ← (do let x49 ← (pure at17); pure (Option.some x49)); pure (cutL x50 i51 j52)); let y57 ← (do let l55 ← (do let x53 ← (pure wild29); let y54 ← (pure []); pure (x53 :: y54)); gd (l55.length ≤ 100000); pure l55); gd (x56.length + y57.length ≤ 100000); pure (x56 ++ y57)); let y65 ← (do let x61 ← (pure row10); let i62 ← (do let x60 ← (do let x58 ← (pure at17); let y59 ← (pure (1 : Int)); pure (x58 + y59)); pure (Option.some x60)); let j63 ← (pure Option.none); pure (cutL x61 i62 j63)); gd (x64.length + y65.length ≤ 100000); pure (x64 ++ y65)); let y81 ← (do let x78 ← (do let x76 ← (do let x67 ← (pure row10); let i68 ← (pure Option.none); let j69 ← (do let x66 ← (pure at17); pure (Option.some x66)); pure (cutL x67 i68 j69)); let y77 ← (do let x73 ← (pure row10); let i74 ← (do let x72 ← (do let x70 ← (pure at17); let y71 ← (pure (1 : Int)); pure (x70 + y71)); pure (Option.some x72)); let j75 ← (pure Option.none); pure (cutL x73 i74 j75)); gd (x76.length + y77.length ≤ 100000); pure (x76 ++ y77)); let y79 ← (pure []); pure (x78 :: y79)); pure (x80 :: y81)); pure (x82 :: y83)); pure (x84 :: y85)); pure (x86 :: y87)); gd (l88.length ≤ 100000); pure l88); pure (.nx t89)) (fun rows90 => (seqW (do let t102 ← (do let l101 ← (do let n92 ← (do let x91 ← (pure row10); pure ((x91.length : Nat) : Int)); gd (-(2 ^ 62) ≤ n92 ∧ n92 < 2 ^ 62); pure (rgI 0 n92)); gd (l101.length < 100000); cmpW l101 (fun _ => pure true) fun x93 => (do let x99 ← (pure row10); let y100 ← (do let x97 ← (do let x95 ← (do let x94 ← (pure row10); pure ((x94.length : Nat) : Int)); let y96 ← (pure (1 : Int)); pure (x95 - y96)); let y98 ← (pure x93); pure (x97 - y98)); getW x99 y100)); gd (rows90.length < 100000); pure (.nx t102)) (fun t103 => (seqW (do let t110 ← (do let x108 ← (pure row10); let y109 ← (do let x105 ← (pure row10); let i106 ← (pure Option.none); let j107 ← (do let x104 ← (pure (1 : Int)); pure (Option.some x104)); pure (cutL x105 i106 j107)); gd (x108.length + y109.length ≤ 100000); pure (x108 ++ y109)); gd ((rows90 ++ [t103]).length < 100000); pure (.nx t110)) (fun t111 => (seqW (do let t124 ← (do let l123 ← (do let n114 ← ((do let x112 ← (pure (9 : Int)); let y113 ← (pure ()); pure (x112, y113)) >>= m_law_draw); gd (-(2 ^ 62) ≤ n114 ∧ n114 < 2 ^ 62); pure (rgI 0 n114)); gd (l123.length < 100000); cmpW l123 (fun _ => pure true) fun x115 => (do let x121 ← ((do let x119 ← (do let x117 ← (do let x116 ← (pure a.2.1); pure ((x116.length : Nat) : Int)); let y118 ← (pure (2 : Int)); pure (x117 + y118)); let y120 ← (pure ()); pure (x119, y120)) >>= m_law_draw); let y122 ← (pure (1 : Int)); pure (x121 - y122))); gd (((rows90 ++ [t103]) ++ [t111]).length < 100000); pure (.nx t124)) (fun t125 => (pure (.rt (((rows90 ++ [t103]) ++ [t111]) ++ [t125])))))))))))))))))
abbrev FD_law_rows (T : Tx) : Prop := FD T "_law_rows" 3 ["pool", "villages", "lines", "census", "chosen"] (fun a : Int × (List ((List Int) × Int)) × (List Int) × (List Int) × Unit => [.p, .d (eI a.1), .d ((eL (eP (eT eI) eI)) a.2.1), .d ((eL eI) a.2.2.1), .d ((eT eI) a.2.2.2.1)]) (fun r : (List (List Int)) => .l (r.map (eL eI))) m_law_rows

def m_law_splits (a : Int × (List ((List Int) × Int)) × (List Int) × (List Int) × Unit) : W (List (List (List Int))) := runW (β := Empty) (σ := Unit) (seqW (do let t11 ← ((do let x9 ← (pure a.1); let y10 ← (do let x7 ← ((do let x3 ← (pure a.2.1); let y4 ← (do let x1 ← (pure a.2.2.2.1); let y2 ← (pure ()); pure (x1, y2)); pure (x3, y4)) >>= m_law_some_lines); let y8 ← (do let x5 ← (pure a.2.2.1); let y6 ← (pure ()); pure (x5, y6)); pure (x7, y8)); pure (x9, y10)) >>= m_law_labels); pure (.nx t11)) (fun mine12 => (seqW (do let t19 ← ((do let x17 ← (pure a.1); let y18 ← (do let x15 ← (pure a.2.1); let y16 ← (do let x13 ← (pure a.2.2.1); let y14 ← (pure ()); pure (x13, y14)); pure (x15, y16)); pure (x17, y18)) >>= m_law_labels); pure (.nx t19)) (fun full20 => (seqW (do let t30 ← (do let l29 ← (do let x27 ← ((do let x21 ← (pure mine12); let y22 ← (pure ()); pure (x21, y22)) >>= m_law_blocks); let y28 ← (do let x25 ← ((do let x23 ← (pure full20); let y24 ← (pure ()); pure (x23, y24)) >>= m_law_blocks); let y26 ← (pure []); pure (x25 :: y26)); pure (x27 :: y28)); gd (l29.length ≤ 100000); pure l29); pure (.nx t30)) (fun found31 => (seqW ((do let l55 ← (do let l36 ← (do let x34 ← (pure mine12); let y35 ← (do let x32 ← (pure full20); let y33 ← (pure []); pure (x32 :: y33)); pure (x34 :: y35)); gd (l36.length ≤ 100000); pure l36); forW l55 (found31, ()) (fun x38 s37 => (seqW (do let t45 ← ((do let x43 ← ((do let x41 ← (pure a.1); let y42 ← (do let x39 ← (pure x38); let y40 ← (pure ()); pure (x39, y40)); pure (x41, y42)) >>= m_law_parting); let y44 ← (pure ()); pure (x43, y44)) >>= m_law_blocks); pure (.nx t45)) (fun blocks46 => (seqW (do let t47 ← (pure blocks46); gd (s37.1.length < 100000); pure (.nx t47)) (fun t48 => (seqW (do let t53 ← ((do let x51 ← (pure a.1); let y52 ← (do let x49 ← (pure blocks46); let y50 ← (pure ()); pure (x49, y50)); pure (x51, y52)) >>= m_law_bent); gd ((s37.1 ++ [t48]).length < 100000); pure (.nx t53)) (fun t54 => (pure (.nx (((s37.1 ++ [t48]) ++ [t54]), ()))))))))))) : W (Fl (List (List (List Int))) Empty ((List (List (List Int))) × Unit))) (fun s56 => (pure (.rt s56.1))))))))))
abbrev FD_law_splits (T : Tx) : Prop := FD T "_law_splits" 3 ["pool", "villages", "lines", "census", "chosen"] (fun a : Int × (List ((List Int) × Int)) × (List Int) × (List Int) × Unit => [.p, .d (eI a.1), .d ((eL (eP (eT eI) eI)) a.2.1), .d ((eL eI) a.2.2.1), .d ((eT eI) a.2.2.2.1)]) (fun r : (List (List (List Int))) => .l (r.map (eL (eL eI)))) m_law_splits

def mb_law_asked (a : (Int × List (List Int × Int)) × (List Int) × (List Int) × (List Int) × Str × ((List Int) ⊕ (List (List Int))) × (Option (Int × Str)) × Unit) : W (Fl Bool Empty Unit) := match a with
  | (z0, z1, z2, z3, z4, Sum.inl z5, z6, _) => (seqW (do let t2 ← (pure z1); pure (.nx t2)) (fun census3 => (seqW (do let t8 ← (do let l7 ← (pure z5); gd (l7.length < 100000); cmpW l7 (fun _ => pure true) fun x4 => (do let x6 ← (do let _ ← (pure x4); pure false); if x6 then (deadW : W Int) else (pure x4))); pure (.nx t8)) (fun handed9 => (seqW (do let t23 ← ((do let x21 ← (pure z0); let y22 ← (do let x19 ← (pure z1); let y20 ← (do let x17 ← (pure z2); let y18 ← (do let x15 ← (pure z3); let y16 ← (do let x13 ← (do let x11 ← (pure z4); let x12 ← ((pure handed9) >>= fun t10 => pure (Sum.inl t10)); pure (x11, x12)); let y14 ← (pure ()); pure (x13, y14)); pure (x15, y16)); pure (x17, y18)); pure (x19, y20)); pure (x21, y22)) >>= m_fault_of_holding); pure (.nx t23)) (fun got24 => (do let t25 ← (do let x35 ← ((do let x28 ← (pure got24); let y29 ← (do let x26 ← (pure z6); let y27 ← (pure ()); pure (x26, y27)); pure (x28, y29)) >>= m_law_same (eO (eP eI eS)) 1); if x35 then (do let x34 ← (do let x30 ← (pure z1); let y31 ← (pure census3); pure (decide (x30 = y31))); if x34 then (do let x32 ← (pure handed9); let y33 ← (pure z5); pure (decide (x32 = y33))) else pure false) else pure false); pure (.rt t25))))))))
  | (z0, z1, z2, z3, z4, Sum.inr z5, z6, _) => (seqW (do let t2 ← (pure z1); pure (.nx t2)) (fun census3 => (seqW (do let t9 ← (do let l8 ← (pure z5); gd (l8.length < 100000); cmpW l8 (fun _ => pure true) fun x4 => (do let x7 ← (do let _ ← (pure x4); pure true); if x7 then (pure x4) else (deadW : W (List Int)))); pure (.nx t9)) (fun handed10 => (seqW (do let t24 ← ((do let x22 ← (pure z0); let y23 ← (do let x20 ← (pure z1); let y21 ← (do let x18 ← (pure z2); let y19 ← (do let x16 ← (pure z3); let y17 ← (do let x14 ← (do let x12 ← (pure z4); let x13 ← ((pure handed10) >>= fun t11 => pure (Sum.inr t11)); pure (x12, x13)); let y15 ← (pure ()); pure (x14, y15)); pure (x16, y17)); pure (x18, y19)); pure (x20, y21)); pure (x22, y23)) >>= m_fault_of_holding); pure (.nx t24)) (fun got25 => (do let t26 ← (do let x36 ← ((do let x29 ← (pure got25); let y30 ← (do let x27 ← (pure z6); let y28 ← (pure ()); pure (x27, y28)); pure (x29, y30)) >>= m_law_same (eO (eP eI eS)) 1); if x36 then (do let x35 ← (do let x31 ← (pure z1); let y32 ← (pure census3); pure (decide (x31 = y32))); if x35 then (do let x33 ← (pure handed10); let y34 ← (pure z5); pure (decide (x33 = y34))) else pure false) else pure false); pure (.rt t26))))))))
def m_law_asked (a : (Int × List (List Int × Int)) × (List Int) × (List Int) × (List Int) × Str × ((List Int) ⊕ (List (List Int))) × (Option (Int × Str)) × Unit) : W Bool := runW (mb_law_asked a)
abbrev FD_law_asked (T : Tx) : Prop := FD T "_law_asked" 7 ["land", "people", "party", "chosen", "word", "material", "due"] (fun a : (Int × List (List Int × Int)) × (List Int) × (List Int) × (List Int) × Str × ((List Int) ⊕ (List (List Int))) × (Option (Int × Str)) × Unit => [.q (KIns T "Region" (eReg a.1)), .d ((eL eI) a.2.1), .d ((eT eI) a.2.2.1), .d ((eT eI) a.2.2.2.1), .d (eS a.2.2.2.2.1), .d ((eSum (eL eI) (eL (eL eI))) a.2.2.2.2.2.1), .d ((eO (eP eI eS)) a.2.2.2.2.2.2.1)]) (fun r : Bool => .d (eB r)) m_law_asked

def m_law : W (Fl Bool Empty Unit) := (seqW (do let t4 ← ((do let x1 ← (pure (7 : Int)); let y2 ← (pure ()); pure (x1, y2)) >>= m_law_county); pure (.nx t4)) (fun t3 => (seqW (do let t10 ← ((do let x8 ← (pure t3.1); let y9 ← (do let x6 ← (pure t3.2.1); let y7 ← (pure ()); pure (x6, y7)); pure (x8, y9)) >>= m_Region); pure (.nx t10)) (fun land11 => (seqW (do let t19 ← (do let l18 ← (do let x16 ← (do let x13 ← (do let x12 ← (pure t3.2.1); pure ((x12.length : Nat) : Int)); gd (RgOk 0 x13); pure (rgI 0 x13)); let y17 ← (do let x14 ← (pure []); let y15 ← (pure []); pure (x14 :: y15)); pure (x16 :: y17)); gd (l18.length ≤ 100000); pure l18); pure (.nx t19)) (fun chosen20 => (seqW ((do let l35 ← (do let n21 ← (pure (2 : Int)); gd (-(2 ^ 62) ≤ n21 ∧ n21 < 2 ^ 62); pure (rgI 0 n21)); forW l35 (chosen20, ()) (fun x23 s22 => (seqW (do let t33 ← (do let l27 ← (do let n25 ← (do let x24 ← (pure t3.2.1); pure ((x24.length : Nat) : Int)); gd (-(2 ^ 62) ≤ n25 ∧ n25 < 2 ^ 62); pure (rgI 0 n25)); gd (l27.length < 100000); cmpW l27 (fun x26 => (do let x30 ← ((do let x28 ← (pure (3 : Int)); let y29 ← (pure ()); pure (x28, y29)) >>= m_law_draw); let y31 ← (pure (0 : Int)); pure (decide (y31 < x30)))) fun x26 => (pure x26)); gd (s22.1.length < 100000); pure (.nx t33)) (fun t34 => (pure (.nx ((s22.1 ++ [t34]), ()))))))) : W (Fl Bool Empty ((List (List Int)) × Unit))) (fun s36 => (seqW (do let t38 ← (pure t3.2.2.1); pure (.nx t38)) (fun people39 => (seqW (do let t40 ← (pure []); pure (.nx t40)) (fun dues41 => (seqW ((do let l106 ← (pure s36.1); forW l106 (dues41, ()) (fun x43 s42 => (seqW ((do let l73 ← ((do let x50 ← (pure t3.1); let y51 ← (do let x48 ← (pure t3.2.1); let y49 ← (do let x46 ← (pure t3.2.2.1); let y47 ← (do let x44 ← (pure x43); let y45 ← (pure ()); pure (x44, y45)); pure (x46, y47)); pure (x48, y49)); pure (x50, y51)) >>= m_law_rows); forW l73 (s42.1, ()) (fun x53 s52 => (seqW (do let t71 ← (do let x67 ← (pure x43); let x68 ← (pure ("joins" : Str)); let x69 ← ((pure x53) >>= fun t54 => pure (Sum.inl t54)); let x70 ← ((do let x65 ← (pure t3.1); let y66 ← (do let x63 ← (pure t3.2.1); let y64 ← (do let x61 ← (pure t3.2.2.1); let y62 ← (do let x59 ← (pure t3.2.2.2); let y60 ← (do let x57 ← (pure x43); let y58 ← (do let x55 ← (pure x53); let y56 ← (pure ()); pure (x55, y56)); pure (x57, y58)); pure (x59, y60)); pure (x61, y62)); pure (x63, y64)); pure (x65, y66)) >>= m_law_row_fault); pure (x67, x68, x69, x70)); gd (s52.1.length < 100000); pure (.nx t71)) (fun t72 => (pure (.nx ((s52.1 ++ [t72]), ()))))))) : W (Fl Bool ((List ((List Int) × Str × ((List Int) ⊕ (List (List Int))) × (Option (Int × Str)))) × Unit) ((List ((List Int) × Str × ((List Int) ⊕ (List (List Int))) × (Option (Int × Str)))) × Unit))) (fun s74 => (seqW ((do let l104 ← ((do let x81 ← (pure t3.1); let y82 ← (do let x79 ← (pure t3.2.1); let y80 ← (do let x77 ← (pure t3.2.2.1); let y78 ← (do let x75 ← (pure x43); let y76 ← (pure ()); pure (x75, y76)); pure (x77, y78)); pure (x79, y80)); pure (x81, y82)) >>= m_law_splits); forW l104 (s74.1, ()) (fun x84 s83 => (seqW (do let t102 ← (do let x98 ← (pure x43); let x99 ← (pure ("split" : Str)); let x100 ← ((pure x84) >>= fun t85 => pure (Sum.inr t85)); let x101 ← ((do let x96 ← (pure t3.1); let y97 ← (do let x94 ← (pure t3.2.1); let y95 ← (do let x92 ← (pure t3.2.2.1); let y93 ← (do let x90 ← (pure t3.2.2.2); let y91 ← (do let x88 ← (pure x43); let y89 ← (do let x86 ← (pure x84); let y87 ← (pure ()); pure (x86, y87)); pure (x88, y89)); pure (x90, y91)); pure (x92, y93)); pure (x94, y95)); pure (x96, y97)) >>= m_law_split_fault); pure (x98, x99, x100, x101)); gd (s83.1.length < 100000); pure (.nx t102)) (fun t103 => (pure (.nx ((s83.1 ++ [t103]), ()))))))) : W (Fl Bool ((List ((List Int) × Str × ((List Int) ⊕ (List (List Int))) × (Option (Int × Str)))) × Unit) ((List ((List Int) × Str × ((List Int) ⊕ (List (List Int))) × (Option (Int × Str)))) × Unit))) (fun s105 => (pure (.nx (s105.1, ()))))))))) : W (Fl Bool Empty ((List ((List Int) × Str × ((List Int) ⊕ (List (List Int))) × (Option (Int × Str)))) × Unit))) (fun s107 => (seqW ((do let l132 ← (pure s107.1); forW l132 (()) (fun x109 s108 => (seqW ((do let c129 ← (do let x128 ← ((do let x126 ← (pure land11); let y127 ← (do let x124 ← (pure people39); let y125 ← (do let x122 ← (pure t3.2.2.2); let y123 ← (do let x120 ← (do let x110 ← (pure x109); pure x110.1); let y121 ← (do let x118 ← (do let x111 ← (pure x109); pure x111.2.1); let y119 ← (do let x116 ← (do let x112 ← (pure x109); pure x112.2.2.1); let y117 ← (do let x114 ← (do let x113 ← (pure x109); pure x113.2.2.2); let y115 ← (pure ()); pure (x114, y115)); pure (x116, y117)); pure (x118, y119)); pure (x120, y121)); pure (x122, y123)); pure (x124, y125)); pure (x126, y127)) >>= m_law_asked); pure (!x128)); if c129 then (do let t130 ← (pure false); pure (.rt t130)) else (pure (.nx (())))) : W (Fl Bool (Unit) (Unit))) (fun s131 => (pure (.nx (()))))))) : W (Fl Bool Empty (Unit))) (fun s133 => (seqW ((do let l169 ← (do let n135 ← (do let x134 ← (pure s107.1); pure ((x134.length : Nat) : Int)); gd (-(2 ^ 62) ≤ n135 ∧ n135 < 2 ^ 62); pure (rgI 0 n135)); forW l169 (()) (fun x137 s136 => (seqW (do let t145 ← (do let x143 ← (pure s107.1); let y144 ← (do let x141 ← (do let x139 ← (do let x138 ← (pure s107.1); pure ((x138.length : Nat) : Int)); let y140 ← (pure (1 : Int)); pure (x139 - y140)); let y142 ← (pure x137); pure (x141 - y142)); getW x143 y144); pure (.nx t145)) (fun due146 => (seqW ((do let c166 ← (do let x165 ← ((do let x163 ← (pure land11); let y164 ← (do let x161 ← (pure people39); let y162 ← (do let x159 ← (pure t3.2.2.2); let y160 ← (do let x157 ← (do let x147 ← (pure due146); pure x147.1); let y158 ← (do let x155 ← (do let x148 ← (pure due146); pure x148.2.1); let y156 ← (do let x153 ← (do let x149 ← (pure due146); pure x149.2.2.1); let y154 ← (do let x151 ← (do let x150 ← (pure due146); pure x150.2.2.2); let y152 ← (pure ()); pure (x151, y152)); pure (x153, y154)); pure (x155, y156)); pure (x157, y158)); pure (x159, y160)); pure (x161, y162)); pure (x163, y164)) >>= m_law_asked); pure (!x165)); if c166 then (do let t167 ← (pure false); pure (.rt t167)) else (pure (.nx (())))) : W (Fl Bool (Unit) (Unit))) (fun s168 => (pure (.nx (()))))))))) : W (Fl Bool Empty (Unit))) (fun s170 => (do let t171 ← (pure true); pure (.rt t171))))))))))))))))))))

end DW
namespace DW
open PySem L2 PL
theorem fd_ordered {T : Tx} (B : Blt T)  {f : Addr} {fd : FuncData} (Td : TD T.K T.mg "ordered" s_ordered ["blocks"] f fd) : FD_ordered T :=
  FD.of (β := Empty) (ζ := Unit) (sb := nofun) (sn := fun _ => []) Td sc_ordered (fun _ => rfl) (by decide) fun a =>
    (JB.one (JS.ret (JL.sortedD B (JX.kn (JC.l (JC.one (vs := [1]) (js := [1]) (JI.list (JE.var 0 a.1 rfl)) (JG.name 1) (fun x2 => (JT.gt (JE.lenL B (JE.var 1 x2 rfl)) JE.int)) (fun x2 => (JX.kn (JL.sortedI B (JE.var 1 x2 rfl))))))))))

theorem js_tidy_0 {T : Tx} (B : Blt T) (f_ordered : FD_ordered T) (a : Int × (List (List Int)) × Unit) : JS T (Fr.def n_tidy s_tidy 2) ((defBody s_tidy).getD 0 (.Pass ⟨0, 0, 0, 0⟩)) [.d (eI a.1), .d ((eL (eL eI)) a.2.1), .no, .no, .no] (fun _ : Unit => .d (eN ())) (nofun : Empty → List Sl) (fun t : (List Int) => List.set [.d (eI a.1), .d ((eL (eL eI)) a.2.1), .no, .no, .no] 2 (.l (t.map eI))) (m_tidy_0 a >>= fun t => pure (.nx t)) :=
  (JS.setC 2 (JC.two00 (vs := [3, 4]) (vs1 := [4]) (js := [3]) (js1 := [4]) (JI.list (JE.var 1 a.2.1 rfl)) (JG.name 3) (fun x1 => (JI.list (JE.var 3 x1 rfl))) (JG.name 4) (fun x1 y2 => (JE.var 4 y2 rfl))))
theorem jt_tidy_1 {T : Tx} (B : Blt T) (f_ordered : FD_ordered T) (a : Int × (List (List Int)) × Unit) (y0 : (List Int)) : JT T (Fr.def n_tidy s_tidy 2) (ifE ((defBody s_tidy).getD 1 (.Pass ⟨0, 0, 0, 0⟩))) [.d (eI a.1), .d ((eL (eL eI)) a.2.1), .d ((eL eI) y0), .no, .no] (m_tidy_1 a y0) :=
  (JT.val (JE.any B (JX.kn (JC.l (JC.all (vs := [4]) (js := [4]) (JI.list (JE.var 2 y0 rfl)) (JG.name 4) (fun x4 => (JE.not (JE.leLt JE.int (JE.var 4 x4 rfl) (JE.var 0 a.1 rfl)))))))))
theorem jt_tidy_2 {T : Tx} (B : Blt T) (f_ordered : FD_ordered T) (a : Int × (List (List Int)) × Unit) (y0 : (List Int)) : JT T (Fr.def n_tidy s_tidy 2) (ifE ((defBody s_tidy).getD 2 (.Pass ⟨0, 0, 0, 0⟩))) [.d (eI a.1), .d ((eL (eL eI)) a.2.1), .d ((eL eI) y0), .no, .no] (m_tidy_2 a y0) :=
  (JT.lt (JE.lenSetI B (JE.var 2 y0 rfl)) (JE.lenL B (JE.var 2 y0 rfl)))
theorem jt_tidy_3 {T : Tx} (B : Blt T) (f_ordered : FD_ordered T) (a : Int × (List (List Int)) × Unit) (y0 : (List Int)) : JT T (Fr.def n_tidy s_tidy 2) (ifE ((defBody s_tidy).getD 3 (.Pass ⟨0, 0, 0, 0⟩))) [.d (eI a.1), .d ((eL (eL eI)) a.2.1), .d ((eL eI) y0), .no, .no] (m_tidy_3 a y0) :=
  (JT.lt (JE.lenL B (JE.var 2 y0 rfl)) (JE.var 0 a.1 rfl))
theorem jx_tidy_4 {T : Tx} (B : Blt T) (f_ordered : FD_ordered T) (a : Int × (List (List Int)) × Unit) (y0 : (List Int)) : JX T (Fr.def n_tidy s_tidy 2) (retE ((defBody s_tidy).getD 4 (.Pass ⟨0, 0, 0, 0⟩))) [.d (eI a.1), .d ((eL (eL eI)) a.2.1), .d ((eL eI) y0), .no, .no] (fun r : (List (List Int)) => .l (r.map (eL eI))) (m_tidy_4 a y0) :=
  (JX.call f_ordered (JA.cons (JE.var 1 a.2.1 rfl) JA.nil))

/-- BadDivision's __init__ -/
theorem ok_bad {T : Tx} {C f : Addr} {fd : FuncData} (Fn : Fun T.K "__init__" "BadDivision.__init__" s_BadDivision_init f fd) (O : OexC T.K C) (no : PySem.W.findIn T.K (.ref C) "why" = some none) : FnOk T.P T.w T.K T.mg T.base CX0 1 f fd ["self", "why"] (spBad C) := by
  refine Fn.ok sc_BadDivision_init (fun vs H Q E ⟨_, _, e, _⟩ => by rw [e]; rfl) (fun cdv A outer s H vs Q E hr h => ?_)
  obtain ⟨a, v, rfl, ha, q⟩ := h
  refine ⟨_, pbR _, ?_⟩
  show rdB (bd T.P T.w T.K T.mg T.base n_BadDivision_init "BadDivision.__init__" s_BadDivision_init f cdv A outer s H E) _ _ _ _
  refine b_at rfl ?_
  refine b_one (toS (ps_ost (peR _) (peR _)) (toE (pe_var (i := 1) rfl (.inl rfl) rfl rfl) ⟨v, rfl, toE (pe_var (i := 0) rfl (.inl rfl) rfl rfl) ⟨.ref a, rfl, a, C, rfl, O, no, .inl ⟨ha, fun dx h1 h2 => q dx h1 h2⟩⟩⟩))
/-- raise BadDivision(..) -/
theorem s_bad {T : Tx} {F : Fr} {X : Cx} {E : XK} {M : MS} {σ : St} {G H : Hp} {D : Ends} {t : Str} {p0 p1 p2 p3 : Pos} (C : CxF T F X) (Bd : BdF T) (tk : Takes X (fun cls d _ H => E cls d H)) (hk : Room 2 X.A) (wd : Wd M G H) (hg : F.glo "BadDivision" = true) (q : ∀ Ca d H', T.mg "BadDivision" = some (.ref Ca) → Stp M G H G H' → E (.ref Ca) (some d) H') : rdS X (.Raise (some (.Call (.Name "BadDivision" p0) [.Constant (.str t) 0 p1] [] p2)) none p3) D σ H := by
  obtain ⟨Ca, fI, fd, b1, b2, b3, b4, b5, b6, b7, b8⟩ := Bd.ex
  obtain ⟨g1, g2⟩ := C.glo hg
  have e1 : X.prog = T.P := C.P
  have e2 : X.w = T.w := congrArg Tx.w C.tx
  have e3 : X.base = T.base := congrArg Tx.base C.tx
  have ok : FnOk X.prog X.w X.K X.mg X.base CX0 1 fI fd ["self", "why"] (spBad Ca) := by rw [e1, e2, C.K, C.mg, e3]; exact b7
  refine toS (ps_raise C.calm tk (pmk_oex (x := "BadDivision") (by rw [C.K]; exact b2) (by rw [C.K]; exact b3) (by rw [C.K]; exact b4) ok hk (by rw [C.K]; exact b8) .nil pass0 g1 (by rw [C.mg]; exact b1) (pa_cons pe_str pa_nil) g2)) ?_
  refine ⟨by simp, fun a ha => ⟨a, .str t, rfl, upd_same, fun dx h1 h2 => ⟨rfl, dx, [("why", .str t)], upd_same, ?_, ?_, ?_⟩⟩⟩
  · rw [upd_ne h2]; exact upd_same
  · rw [upd_ne h2] at h1; exact h1
  · rw [upd_ne h2] at h1
    have e : upd (del (upd (upd (upd H a (exo a Ca none)) dx (exd dx [("why", .str t)])) a (exo a Ca (some dx))) a) dx (.xd [("why", .str t)]) = upd H dx (.xd [("why", .str t)]) := by
      funext b
      by_cases z : b = dx
      · subst z; rw [upd_same, upd_same]
      · rw [upd_ne z, upd_ne z]
        by_cases y : b = a
        · subst y; rw [del_same]; exact ha.symm
        · rw [del_ne y, upd_ne y, upd_ne z, upd_ne y]
    rw [e]
    exact q Ca dx _ b1 (.laidN wd h1)
theorem fd_tidy {T : Tx} (B : Blt T) (f_ordered : FD_ordered T) (Bd : BdF T) {f : Addr} {fd : FuncData} (Td : TD T.K T.mg "tidy" s_tidy ["villages", "blocks"] f fd) : FD_tidy T := by
  refine ⟨f, fd, Td.fn.okX sc_tidy (fun vs H Q E h => ?_) (fun cdv A outer s H vs Q E hr h => ?_), Td.g, Td.fn.kp, Td.b⟩
  · obtain ⟨M, G, a, P, _, _, hv, _, _⟩ := h
    rw [(vps_get hv).1]; rfl
  · obtain ⟨M, G, a, P, wd, mi, hv, hm, q, qx⟩ := h
    cases hv with
    | @cons u1 _ _ _ v1 hv => cases hv with
      | @cons u2 _ _ _ v2 hv =>
        cases hv
        have v1 : Dp T.K G u1 (eI a.1) := v1
        have v2 : Dp T.K G u2 (eL (eL eI) a.2.1) := v2
        refine ⟨_, pbR _, ?_⟩
        show rdB (cxOf (L2.CX T.P T.w) T.P T.w T.K T.mg T.base n_tidy "tidy" (defScope s_tidy) f cdv A outer s H E) _ _ _ _
        generalize hX : cxOf (L2.CX T.P T.w) T.P T.w T.K T.mg T.base n_tidy "tidy" (defScope s_tidy) f cdv A outer s H E = X
        have C : CxF T (Fr.def n_tidy s_tidy 2) X := by subst hX; exact ⟨rfl, rfl, sc_tidy.nd, rfl, rfl, fun _ _ => rfl, hr, passes_of rfl⟩
        have tk : Takes X (fun cls d _ H => E cls d H) := by subst hX; exact takes_of rfl rfl rfl rfl
        have hr2 : Room 2 X.A := by subst hX; exact hr
        have R : Rel T M G H [.d (eI a.1), .d (eL (eL eI) a.2.1), .no, .no, .no] G [some u1, some u2, none, none, none] H := by
          refine ⟨.refl wd, fun i sl h => ?_, fun i j xs ys n h1 h2 => ?_, mi⟩
          · match i, h with
            | 0, h => cases h; exact ⟨u1, rfl, v1⟩
            | 1, h => cases h; exact ⟨u2, rfl, v2⟩
            | 2, h => cases h; trivial
            | 3, h => cases h; trivial
            | 4, h => cases h; trivial
            | i + 5, h => simp at h
          · match i, h1 with
            | 0, h => cases h
            | 1, h => cases h
            | 2, h => cases h
            | 3, h => cases h
            | 4, h => cases h
            | i + 5, h => simp at h
        have bad : ∀ {σ2 : St} {G2 H2 : Hp} {D : Ends} {t : Str} {p0 p1 p2 p3 : Pos}, Stp M G H G2 H2 → P none → rdB X [.Raise (some (.Call (.Name "BadDivision" p0) [.Constant (.str t) 0 p1] [] p2)) none p3] D σ2 H2 := fun {σ2 G2 H2 D t p0 p1 p2 p3} st pn => by
          have st' : Stp M G H G H2 := Stp.less wd (Ex.refl _) st
          exact b_one (s_bad C Bd tk hr2 st'.wd (by kernel_rfl) fun Ca d H' e s' => qx Ca d H' e (st'.trans s') pn)
        refine b_at rfl ?_
        refine b_cons ((js_tidy_0 B f_ordered a).run X M G H _ G H C R rfl (fun f => nxQ f fun y => m_tidyB a y P) hm _ ⟨fun n σ2 G2 H2 p2 r2 x2 => ?_, fun _ _ _ _ z => (show False from z).elim, fun b => (nomatch b), fun b => (nomatch b)⟩)
        obtain ⟨G3, r3, x3⟩ := r2.frz (i := 2) rfl
        have r3 : Rel T M G H [.d (eI a.1), .d (eL (eL eI) a.2.1), .d (eL eI n), .no, .no] G3 σ2 H2 := r3
        have p2 : m_tidy_1 a n fun c => (if c = true then (pure none : W (Option (List (List Int)))) else m_tidyC a n) P := p2
        refine b_cons (toS (ps_if (ptR _) (pbR _) (pbR _)) ((jt_tidy_1 B f_ordered a n).run X M σ2 G3 H2 C r3.wd r3.view _ p2 _ fun t G4 H4 s4 p4 => ?_))
        cases t with
        | true => exact iteT (bad (r3.stp.trans s4) p4)
        | false =>
          refine iteF (b_nil ?_)
          have r4 := r3.step s4
          have p4 : m_tidy_2 a n fun c => (if c = true then (pure none : W (Option (List (List Int)))) else m_tidyD a n) P := p4
          refine b_cons (toS (ps_if (ptR _) (pbR _) (pbR _)) ((jt_tidy_2 B f_ordered a n).run X M σ2 G4 H4 C r4.wd r4.view _ p4 _ fun t G5 H5 s5 p5 => ?_))
          cases t with
          | true => exact iteT (bad (r4.stp.trans s5) p5)
          | false =>
            refine iteF (b_nil ?_)
            have r5 := r4.step s5
            have p5 : m_tidy_3 a n fun c => (if c = true then (pure none : W (Option (List (List Int)))) else (m_tidy_4 a n >>= fun r => pure (some r))) P := p5
            refine b_cons (toS (ps_if (ptR _) (pbR _) (pbR _)) ((jt_tidy_3 B f_ordered a n).run X M σ2 G5 H5 C r5.wd r5.view _ p5 _ fun t G6 H6 s6 p6 => ?_))
            cases t with
            | true => exact iteT (bad (r5.stp.trans s6) p6)
            | false =>
              refine iteF (b_nil ?_)
              have r6 := r5.step s6
              have p6 : m_tidy_4 a n fun r => P (some r) := p6
              exact b_one (s_ret ((jx_tidy_4 B f_ordered a n).run X M σ2 G6 H6 C r6.wd r6.view (fun r => P (some r)) p6 _ fun v r G7 H7 s7 hv pr => by
                subst hX
                exact q v r G7 H7 (r6.stp.trans s7) (hv.back r6.stp) pr))
/-- try: .., except x: return a truth value -/
theorem s_try {X : Cx} {x : Str} {c : Value} {body : List Stmt} {b : Bool} {D : Ends} {σ : St} {H : Hp} {np p1 p2 pos pos' : Pos} (hs : X.stack = X.env :: X.outer) (hf : X.env.frame = some X.env.locals) (hc : Names X x c)
    (h : ∀ (pn : List (Addr × Obj)) (xe : Value → Shared → Prop), Takes (X.tr pn xe) (wOnly X.K c (fun _ _ _ D _ H => D.rt (.bl b) H) (fun _ _ _ _ => False) D) → PassesOwn (model X.prog X.w) X.A X.env xe → rdB (X.tr pn xe) body D σ H) : rdS X (.Try body [.ExceptHandler (some (.Name x np)) none [.Return (some (.Constant (.bool b) 0 p1)) p2] pos'] [] [] pos) D σ H :=
  toS (ps_try_only (tb := fun W D' σ' H' => ∀ (pn : List (Addr × Obj)) (xe : Value → Shared → Prop), Takes (X.tr pn xe) W → PassesOwn (model X.prog X.w) X.A X.env xe → rdB (X.tr pn xe) body D' σ' H') (ts := fun _ _ _ D _ H => D.rt (.bl b) H) hs hf hc takes0 (fun W pn xe tk po => ⟨fun pins s σ H D I h => (h pn xe tk po).run pins s I⟩) (fun a oe cls d pn _ _ => pss_one (ps_ret pe_bl))) h
/-- try: return tidy(..) == blocks, except BadDivision: return False -/
theorem fd_is_division {T : Tx} (B : Blt T) (Bd : BdF T) (Ti : FD_tidy T) {f : Addr} {fd : FuncData} (Td : TD T.K T.mg "is_division" s_is_division ["villages", "blocks"] f fd) : FD_is_division T := by
  refine ⟨f, fd, Td.fn.ok sc_is_division (fun vs H Q E h => ?_) (fun cdv A outer s H vs Q E hr h => ?_), Td.g, Td.fn.kp, Td.b⟩
  · obtain ⟨M, G, a, P, _, _, hv, _, _⟩ := h
    rw [(vps_get hv).1]; rfl
  · obtain ⟨M, G, a, P, wd, mi, hv, hm, q⟩ := h
    cases hv with
    | @cons u1 _ _ _ v1 hv => cases hv with
      | @cons u2 _ _ _ v2 hv =>
        cases hv
        have v1 : Dp T.K G u1 (eI a.1) := v1
        have v2 : Dp T.K G u2 (eL (eL eI) a.2.1) := v2
        obtain ⟨Ca, fI, fdI, b1, b2, b3, b4, b5, b6, b7, b8⟩ := Bd.ex
        obtain ⟨ft, fdt, t1, t2, t3, t4⟩ := Ti.ex
        refine ⟨_, pbR _, ?_⟩
        show rdB (bd T.P T.w T.K T.mg T.base n_is_division "is_division" s_is_division f cdv A outer s H E) _ _ _ _
        refine b_at rfl ?_
        refine b_one (s_try (c := .ref Ca) rfl rfl ⟨rfl, by decide, .inl b1⟩ fun pn xe tk po => ?_)
        have C : CxF T (Fr.def n_is_division s_is_division 3) ((bd T.P T.w T.K T.mg T.base n_is_division "is_division" s_is_division f cdv A outer s H E).tr pn xe) := ⟨rfl, rfl, sc_is_division.nd, rfl, rfl, fun _ _ => rfl, hr, po⟩
        have hm : m_tidy a fun o => (match o with
          | none => (pure false : W Bool)
          | some l => pure (decide (l = a.2.1))) P := hm
        have s0 : (L2.start n_is_division [u1, u2])[0]? = some (some u1) := rfl
        have s1 : (L2.start n_is_division [u1, u2])[1]? = some (some u2) := rfl
        refine b_one (s_ret (toE (pe_cmpR (C.K ▸ op_eqD C.hu) (pe_callS t1 hr (by rfl) t2 t3 t4 (fun σ => passAt tk σ) (pa_cons (pe_var (i := 0) rfl (.inl rfl) rfl rfl) (pa_cons (pe_var (i := 1) rfl (.inl rfl) rfl rfl) pa_nil (star_one rfl)) (star_one rfl)) (by decide) (star_one rfl) (back_ok rfl)) (peR _) (nomark _)) ?_))
        refine ⟨u1, s0, u2, s1, M, G, a, _, wd, mi, .cons v1 (.cons v2 .nil), hm, fun v r G2 H2 s2 hv2 p2 => ?_, fun Cz d H2 e s2 p2 => ?_⟩
        · obtain ⟨pa, vs2, rfl, e2, e3, e4, e5⟩ := hv2
          have sk : Stp M G H (upd G2 pa (.lst vs2)) H2 := s2.know e2 e4
          have hk : Dp T.K (upd G2 pa (.lst vs2)) (.ref pa) (eL (eL eI) r) := .lst (.inl (.inl upd_same)) ((Ex.new e3).dps e5)
          refine toE (pe_var (i := 1) rfl (.inl rfl) rfl rfl) ⟨u2, s1, ?_⟩
          have rb := rb_eqD (K := T.K) (d := eL (eL eI) r) (e := eL (eL eI) a.2.1) (EncD.shaped (by decide) r) (EncD.shaped (by decide) a.2.1)
          rw [EncQ.eq (e := eL (eL eI)) r a.2.1] at rb
          exact rb _ _ _ _ _ sk.wd.gh hk (sk.gg.dp v2) (q (.bl (decide (r = a.2.1))) _ _ _ sk (.bl _) p2)
        · rw [b1] at e; cases e
          exact ⟨true, b6, fun _ _ _ => q (.bl false) false _ _ s2 (.bl _) p2, fun z => nomatch z⟩

theorem fd_singles {T : Tx} (B : Blt T)  {f : Addr} {fd : FuncData} (Td : TD T.K T.mg "singles" s_singles ["villages"] f fd) : FD_singles T :=
  FD.of (β := Empty) (ζ := Unit) (sb := nofun) (sn := fun _ => []) Td sc_singles (fun _ => rfl) (by decide) fun a =>
    (JB.one (JS.ret (JC.l (JC.all (vs := [1]) (js := [1]) (JI.range1 B (JE.var 0 a.1 rfl)) (JG.name 1) (fun x3 => (JX.kn (JL.lstD (JD.cons (JE.var 1 x3 rfl) JD.nil))))))))

theorem fd_touched_by {T : Tx} (B : Blt T)  {f : Addr} {fd : FuncData} (Td : TD T.K T.mg "touched_by" s_touched_by ["division", "stops"] f fd) : FD_touched_by T :=
  FD.of (β := Empty) (ζ := Unit) (sb := nofun) (sn := fun _ => []) Td sc_touched_by (fun _ => rfl) (by decide) fun a =>
    (JB.one (JS.ret (JC.l (JC.one (vs := [2, 3]) (js := [2, 3]) (JI.enumL B (JE.var 0 a.1 rfl)) (JG.two (JG.name 2) (JG.name 3)) (fun x3 => (JT.val (JE.any B (JX.kn (JC.l (JC.all (vs := [4]) (js := [4]) (JI.tup (JE.var 1 a.2.1 rfl)) (JG.name 4) (fun x5 => (JE.inL (JE.var 4 x5 rfl) (JE.var 3 x3.2 rfl))))))))) (fun x3 => (JE.var 2 x3.1 rfl))))))

theorem fd_join_blocks {T : Tx} (B : Blt T) (f_ordered : FD_ordered T) {f : Addr} {fd : FuncData} (Td : TD T.K T.mg "join_blocks" s_join_blocks ["division", "places"] f fd) : FD_join_blocks T :=
  FD.of (β := Empty) (ζ := Unit) (sb := nofun) (sn := fun _ => []) Td sc_join_blocks (fun _ => rfl) (by decide) fun a =>
    (JB.cons (JS.setC 2 (JC.two10 (vs := [3, 4, 5]) (vs1 := [5]) (js := [3, 4]) (js1 := [5]) (JI.enumL B (JE.var 0 a.1 rfl)) (JG.two (JG.name 3) (JG.name 4)) (fun x2 => (JT.inL (JE.var 3 x2.1 rfl) (JE.var 1 a.2.1 rfl))) (fun x2 => (JI.list (JE.var 4 x2.2 rfl))) (JG.name 5) (fun x2 y3 => (JE.var 5 y3 rfl)))) (fun joined8 => (JB.frz 2 rfl (JB.cons (JS.setC 6 (JC.one (vs := [3, 4]) (js := [3, 4]) (JI.enumL B (JE.var 0 a.1 rfl)) (JG.two (JG.name 3) (JG.name 4)) (fun x10 => (JT.niL (JE.var 3 x10.1 rfl) (JE.var 1 a.2.1 rfl))) (fun x10 => (JE.var 4 x10.2 rfl)))) (fun rest15 => (JB.frz 6 rfl (JB.one (JS.ret (JX.call f_ordered (JA.cons (JX.kn (JL.lstD (JD.cons (JE.var 2 joined8 rfl) (JD.starL (JE.var 6 rest15 rfl) JD.nil)))) JA.nil))))))))))

theorem fd_heads_of_blocks {T : Tx} (B : Blt T)  {f : Addr} {fd : FuncData} (Td : TD T.K T.mg "heads_of_blocks" s_heads_of_blocks ["census", "blocks"] f fd) : FD_heads_of_blocks T :=
  FD.of (β := Empty) (ζ := Unit) (sb := nofun) (sn := fun _ => []) Td sc_heads_of_blocks (fun _ => rfl) (by decide) fun a =>
    (JB.one (JS.ret (JE.sum B (JX.kn (JC.l (JC.two00 (vs := [2, 3]) (vs1 := [3]) (js := [2]) (js1 := [3]) (JI.list (JE.var 1 a.2.1 rfl)) (JG.name 2) (fun x2 => (JI.list (JE.var 2 x2 rfl))) (JG.name 3) (fun x2 y3 => (JE.ixL (JE.var 0 a.1 rfl) (JE.var 3 y3 rfl)))))))))

theorem fd_fault_of_join {T : Tx} (B : Blt T) (Cl : ClF T "Region" ["villages", "lines"]) (f_heads_of_blocks : FD_heads_of_blocks T) (f_touched_by : FD_touched_by T) {f : Addr} {fd : FuncData} (Td : TD T.K T.mg "fault_of_join" s_fault_of_join ["region", "census", "division", "line"] f fd) : FD_fault_of_join T :=
  FD.of (β := Empty) (ζ := Unit) (sb := nofun) (sn := fun _ => []) Td sc_fault_of_join (fun _ => rfl) (by decide) fun a =>
    (JB.cons (JS.ite (sn := fun s10 : Unit => [.q (KIns T "Region" (eReg a.1)), .d ((eL eI) a.2.1), .d ((eL (eL eI)) a.2.2.1), .d (eI a.2.2.2.1), .no, .no, .no, .no]) (JT.not (JT.leLt JE.int (JE.var 3 a.2.2.2.1 rfl) (JE.lenT B (JX.fld (er := eReg) (enc := (eT (eP (eT eI) eI))) Cl (fun r => r.2) (JX.varI (er := eReg) 0 a.1 rfl) (fun _ => rfl))))) (JB.one (JS.ret (JX.someO JE.str))) (JB.nil (()) (.keep (.keep (.keep (.keep (.drop (.drop (.drop (.drop .nil)))))))))) (fun s10 => (JB.cons (JS.unp (js := [4, 5]) (JX.kh (JE.ixT (JX.fld (er := eReg) (enc := (eT (eP (eT eI) eI))) Cl (fun r => r.2) (JX.varI (er := eReg) 0 a.1 rfl) (fun _ => rfl)) (JE.var 3 a.2.2.2.1 rfl))) (JG.two (JG.name 4) (JG.name 5))) (fun t14 => (JB.cons (JS.setC 6 (JC.all (vs := [7]) (js := [7]) (JI.list (JX.kn (JX.call f_touched_by (JA.cons (JE.var 2 a.2.2.1 rfl) (JA.cons (JE.var 4 t14.1 rfl) JA.nil))))) (JG.name 7) (fun x20 => (JE.ixL (JE.var 2 a.2.2.1 rfl) (JE.var 7 x20 rfl))))) (fun touched25 => (JB.frz 6 rfl (JB.cons (JS.ite (sn := fun s32 : Unit => [.q (KIns T "Region" (eReg a.1)), .d ((eL eI) a.2.1), .d ((eL (eL eI)) a.2.2.1), .d (eI a.2.2.2.1), .d ((eT eI) t14.1), .d (eI t14.2), .d ((eL (eL eI)) touched25), .no]) (JT.lt (JE.lenL B (JE.var 6 touched25 rfl)) JE.int) (JB.one (JS.ret (JX.someO JE.str))) (JB.nil (()) (.keep (.keep (.keep (.keep (.keep (.keep (.keep (.drop .nil)))))))))) (fun s32 => (JB.cons (JS.ite (sn := fun s42 : Unit => [.q (KIns T "Region" (eReg a.1)), .d ((eL eI) a.2.1), .d ((eL (eL eI)) a.2.2.1), .d (eI a.2.2.2.1), .d ((eT eI) t14.1), .d (eI t14.2), .d ((eL (eL eI)) touched25), .no]) (JT.lt (JX.call f_heads_of_blocks (JA.cons (JE.var 1 a.2.1 rfl) (JA.cons (JE.var 6 touched25 rfl) JA.nil))) (JE.var 5 t14.2 rfl)) (JB.one (JS.ret (JX.someO JE.str))) (JB.nil (()) (.keep (.keep (.keep (.keep (.keep (.keep (.keep (.drop .nil)))))))))) (fun s42 => (JB.one (JS.ret (JX.noneO (enc := eS) JE.non))))))))))))))

theorem fd_fault_of_stops {T : Tx} (B : Blt T)  {f : Addr} {fd : FuncData} (Td : TD T.K T.mg "fault_of_stops" s_fault_of_stops ["villages", "stops"] f fd) : FD_fault_of_stops T :=
  FD.of (β := Empty) (ζ := Unit) (sb := nofun) (sn := fun _ => []) Td sc_fault_of_stops (fun _ => rfl) (by decide) fun a =>
    (JB.cons (JS.ite (sn := fun s7 : Unit => [.d (eI a.1), .d ((eT eI) a.2.1), .no, .no]) (JT.lt (JE.lenT B (JE.var 1 a.2.1 rfl)) JE.int) (JB.one (JS.ret (JX.someO JE.str))) (JB.nil (()) (.keep (.keep (.drop (.drop .nil)))))) (fun s7 => (JB.cons (JS.ite (sn := fun s18 : Unit => [.d (eI a.1), .d ((eT eI) a.2.1), .no, .no]) (JT.val (JE.any B (JX.kn (JC.l (JC.all (vs := [2]) (js := [2]) (JI.tup (JE.var 1 a.2.1 rfl)) (JG.name 2) (fun x8 => (JE.not (JE.leLt JE.int (JE.var 2 x8 rfl) (JE.var 0 a.1 rfl))))))))) (JB.one (JS.ret (JX.someO JE.str))) (JB.nil (()) (.keep (.keep (.drop (.drop .nil)))))) (fun s18 => (JB.cons (JS.ite (sn := fun s37 : Unit => [.d (eI a.1), .d ((eT eI) a.2.1), .no, .no]) (JT.val (JE.any B (JX.kn (JC.l (JC.all (vs := [3]) (js := [3]) (JI.range1 B (JE.sub (JE.lenT B (JE.var 1 a.2.1 rfl)) JE.int)) (JG.name 3) (fun x23 => (JE.ge (JE.ixT (JE.var 1 a.2.1 rfl) (JE.var 3 x23 rfl)) (JE.ixT (JE.var 1 a.2.1 rfl) (JE.add (JE.var 3 x23 rfl) JE.int))))))))) (JB.one (JS.ret (JX.someO JE.str))) (JB.nil (()) (.keep (.keep (.drop (.drop .nil)))))) (fun s37 => (JB.one (JS.ret (JX.noneO (enc := eS) JE.non)))))))))

theorem fd_fault_of_line {T : Tx} (B : Blt T) (f_fault_of_stops : FD_fault_of_stops T) {f : Addr} {fd : FuncData} (Td : TD T.K T.mg "fault_of_line" s_fault_of_line ["villages", "stops", "number"] f fd) : FD_fault_of_line T :=
  FD.of (β := Empty) (ζ := Unit) (sb := nofun) (sn := fun _ => []) Td sc_fault_of_line (fun _ => rfl) (by decide) fun a =>
    (JB.cons (JS.set 3 (JX.call f_fault_of_stops (JA.cons (JE.var 0 a.1 rfl) (JA.cons (JE.var 1 a.2.1 rfl) JA.nil)))) (fun why6 => (JB.cons (JS.ite (sn := fun s14 : Unit => [.d (eI a.1), .d ((eT eI) a.2.1), .d (eI a.2.2.1), .d ((eO eS) why6)]) (JW.t (JW.and (JT.isN (JE.var 3 why6 rfl)) (JW.and1 (JT.lt (JE.var 2 a.2.2.1 rfl) JE.int)))) (JB.one (JS.ret (JX.someO JE.str))) (JB.nil (()) (.keep (.keep (.keep (.keep .nil)))))) (fun s14 => (JB.one (JS.ret (JE.var 3 why6 rfl)))))))

theorem js_Region_1 {T : Tx} (B : Blt T) (f_fault_of_line : FD_fault_of_line T) {x : Addr} (a : Int × List (List Int × Int) × Unit) : JS T (Fr.def n_Region_init s_Region_init 2) ((defBody s_Region_init).getD 0 (.Pass ⟨0, 0, 0, 0⟩)) [.q (KPis (.ref x)), .d (eI a.1), .d ((eL (eP (eT eI) eI)) a.2.1), .no, .no, .no, .no] (fun _ : Unit => .d (eN ())) (nofun : Empty → List Sl) (fun _ : Unit => [.q (KPis (.ref x)), .d (eI a.1), .d ((eL (eP (eT eI) eI)) a.2.1), .no, .no, .no, .no]) (m_Region_1 a) :=
  (JS.ite (sn := fun s4 : Unit => [.q (KPis (.ref x)), .d (eI a.1), .d ((eL (eP (eT eI) eI)) a.2.1), .no, .no, .no, .no]) (JT.lt (JE.var 1 a.1 rfl) JE.int) (JB.one JS.dead) (JB.nil (()) (.keep (.keep (.keep (.drop (.drop (.drop (.drop .nil)))))))))
theorem js_Region_2 {T : Tx} (B : Blt T) (f_fault_of_line : FD_fault_of_line T) {x : Addr} (a : Int × List (List Int × Int) × Unit) : JS T (Fr.def n_Region_init s_Region_init 2) ((defBody s_Region_init).getD 1 (.Pass ⟨0, 0, 0, 0⟩)) [.q (KPis (.ref x)), .d (eI a.1), .d ((eL (eP (eT eI) eI)) a.2.1), .no, .no, .no, .no] (fun _ : Unit => .d (eN ())) (nofun : Empty → List Sl) (fun _ : Unit => [.q (KPis (.ref x)), .d (eI a.1), .d ((eL (eP (eT eI) eI)) a.2.1), .no, .no, .no, .no]) (m_Region_2 a) :=
  (JS.for (sm := fun s6 : Unit => [.q (KPis (.ref x)), .d (eI a.1), .d ((eL (eP (eT eI) eI)) a.2.1), .no, .no, .no, .no]) (js := [3, 4, 5]) (()) (JI.enumL B (JE.var 2 a.2.1 rfl)) (JG.two (JG.name 3) (JG.two (JG.name 4) (JG.name 5))) (.keep (.keep (.keep (.drop (.drop (.drop (.drop .nil))))))) (fun x7 s6 => (JB.cons (JS.set 6 (JX.call f_fault_of_line (JA.cons (JE.var 1 a.1 rfl) (JA.cons (JE.var 4 x7.2.1 rfl) (JA.cons (JE.var 5 x7.2.2 rfl) JA.nil))))) (fun why15 => (JB.cons (JS.ite (sn := fun s18 : Unit => [.q (KPis (.ref x)), .d (eI a.1), .d ((eL (eP (eT eI) eI)) a.2.1), .d (eI x7.1), .d ((eT eI) x7.2.1), .d (eI x7.2.2), .d ((eO eS) why15)]) (JT.notN (JE.var 6 why15 rfl)) (JB.one JS.dead) (JB.nil (()) (.keep (.keep (.keep (.keep (.keep (.keep (.keep .nil))))))))) (fun s18 => (JB.nil (()) (.keep (.keep (.keep (.drop (.drop (.drop (.drop .nil))))))))))))))
def asE (s : Stmt) : Expr := match s with
  | .Assign _ e _ => e
  | _ => .Constant .none 0 ⟨0, 0, 0, 0⟩
theorem je_Region_3 {T : Tx} (B : Blt T) {x : Addr} (a : Int × List (List Int × Int) × Unit) : JE T (Fr.def n_Region_init s_Region_init 2) (asE ((defBody s_Region_init).getD 3 (.Pass ⟨0, 0, 0, 0⟩))) (hideS [.q (KPis (.ref x)), .d (eI a.1), .d ((eL (eP (eT eI) eI)) a.2.1), .no, .no, .no, .no]) (eT (eP (eT eI) eI)) (m_Region_3 a) :=
  (JE.tuple B (JX.kn (JC.l (JC.all (vs := [4, 5]) (js := [4, 5]) (JI.list (JE.var 2 a.2.1 rfl)) (JG.two (JG.name 4) (JG.name 5)) (fun x21 => (JE.tup2 (JE.tupleT B (JE.var 4 x21.1 rfl)) (JE.var 5 x21.2 rfl)))))))
theorem fi_Region {T : Tx} (B : Blt T) (f_fault_of_line : FD_fault_of_line T) {C f : Addr} {fd : FuncData} (g : T.mg "Region" = some (.ref C)) (mk : Mk T.K C f) (cl : Cls T.K C) (n1 : NoAttr T.K C "villages") (n2 : NoAttr T.K C "lines") (Fn : Fun T.K "__init__" "Region.__init__" s_Region_init f fd) (bi : Binds T.K fd ["self", "villages", "lines"] []) : FI_Region T := by
  refine ⟨C, f, fd, g, mk, Fn.ok sc_Region_init (fun vs H Q E h => ?_) (fun cdv A outer s H vs Q E hr h => ?_), bi⟩
  · obtain ⟨M, G, H1, x, dx, us, a, P, rfl, _, _, _, _, _, _, hv, _, _⟩ := h
    have := (vps_get hv).1
    show us.length + 1 = 3
    rw [this]; rfl
  · obtain ⟨M, G, H1, x, dx, us, a, P, rfl, rfl, hx, hdx, hne, wd, mi, hv, hm, q⟩ := h
    cases hv with
    | @cons u1 _ _ _ v1 hv => cases hv with
      | @cons u2 _ _ _ v2 hv =>
        cases hv
        have v1 : Dp T.K G u1 (eI a.1) := v1
        have v2 : Dp T.K G u2 (eL (eP (eT eI) eI) a.2.1) := v2
        refine ⟨_, pbR _, ?_⟩
        show rdB (bd T.P T.w T.K T.mg T.base n_Region_init "Region.__init__" s_Region_init f cdv A outer s _ E) _ _ _ _
        have Cx : CxF T (Fr.def n_Region_init s_Region_init 2) (bd T.P T.w T.K T.mg T.base n_Region_init "Region.__init__" s_Region_init f cdv A outer s (upd (upd H1 dx (.own x)) x (.ins C dx [])) E) := ⟨rfl, rfl, sc_Region_init.nd, rfl, rfl, fun _ _ => rfl, hr, PassesOwn.never⟩
        have gx : G x = none := wd.gh.back hx
        have s0 : Stp M G H1 G (upd H1 dx (.own x)) := .laidN wd hdx
        have s1 : Stp M G H1 G (upd (upd H1 dx (.own x)) x (.ins C dx [])) := s0.trans (.laidN s0.wd (by rw [upd_ne (Ne.symm hne)]; exact hx))
        generalize hH : upd (upd H1 dx (.own x)) x (.ins C dx []) = H at *
        have hxH : H x = some (.ins C dx []) := by rw [← hH]; exact upd_same
        have nx : ¬ M.m x := wd.nm hx
        have R : Rel T M G H [.q (KPis (.ref x)), .d (eI a.1), .d (eL (eP (eT eI) eI) a.2.1), .no, .no, .no, .no] G [some (.ref x), some u1, some u2, none, none, none, none] H := by
          refine ⟨.refl s1.wd, fun i sl h => ?_, fun i j xs ys n h1 h2 => ?_, mi⟩
          · match i, h with
            | 0, h => cases h; exact ⟨.ref x, rfl, rfl⟩
            | 1, h => cases h; exact ⟨u1, rfl, v1⟩
            | 2, h => cases h; exact ⟨u2, rfl, v2⟩
            | 3, h => cases h; trivial
            | 4, h => cases h; trivial
            | 5, h => cases h; trivial
            | 6, h => cases h; trivial
            | i + 7, h => simp at h
          · match i, h1 with
            | 0, h => cases h
            | 1, h => cases h
            | 2, h => cases h
            | 3, h => cases h
            | 4, h => cases h
            | 5, h => cases h
            | 6, h => cases h
            | i + 7, h => simp at h
        refine b_at rfl ?_
        refine b_cons ((js_Region_1 B f_fault_of_line a).run _ M G H _ G _ Cx R rfl (fun f1 => nxP f1 (m_Region_2 a fun f2 => nxP f2 (m_Region_3 a fun l => P (a.1, l)))) hm _ ⟨fun _ σ2 G2 H2 p2 r2 x2 => lenB fun hl2 => ?_, fun _ _ _ _ z => (show False from z).elim, fun b => (nomatch b), fun b => (nomatch b)⟩)
        refine b_cons ((js_Region_2 B f_fault_of_line a).run _ M G H _ G2 _ Cx r2 hl2 (fun f2 => nxP f2 (m_Region_3 a fun l => P (a.1, l))) p2 _ ⟨fun _ σ3 G3 H3 p3 r3 x3 => ?_, fun _ _ _ _ z => (show False from z).elim, fun b => (nomatch b), fun b => (nomatch b)⟩)
        obtain ⟨w0, z0, z1⟩ := r3.sl 0 _ rfl
        have z1 : w0 = .ref x := z1
        subst z1
        have hself : ∀ ps Hz (Qz : VK), Qz (.ref x) Hz → rdE (bd T.P T.w T.K T.mg T.base n_Region_init "Region.__init__" s_Region_init f cdv A outer s H E) (.Name "self" ps) σ3 Hz Qz := fun ps Hz Qz qz => toE (pe_var (i := 0) rfl (.inl rfl) rfl rfl) ⟨_, z0, qz⟩
        obtain ⟨w1, y0, y1⟩ := r3.sl 1 _ rfl
        have hx3 : H3 x = some (.ins C dx []) := r3.stp.hh x _ nx hxH
        have gn : ∀ {Ga Ha Gb Hb : Hp}, Stp M Ga Ha Gb Hb → Ga x = none → Ha x ≠ none → Gb x = none := fun {Ga Ha Gb Hb} st ga ha => by
          cases z : Gb x with
          | none => rfl
          | some o => exact absurd ga (st.fr x ha (by rw [z]; exact fun y => by cases y))
        have gx3 : G3 x = none := gn r3.stp gx (by rw [hxH]; exact fun y => by cases y)
        have st3 := s1.trans r3.stp
        have st4 : Stp M G H1 G3 (upd H3 x (.ins C dx [("villages", w1)])) := st3.mut hx gx3
        refine b_cons (toS (ps_fld (peR _) (peR _) (sw_no rfl)) (toE (pe_var (i := 1) rfl (.inl rfl) rfl rfl) ⟨w1, y0, hself _ _ _ ⟨x, C, dx, [], rfl, hx3, cl, n1, by decide, ?_⟩⟩))
        refine b_one (toS (ps_fld (peR _) (peR _) (sw_no rfl)) ((je_Region_3 B (x := x) a).run _ M σ3 G3 _ Cx st4.wd r3.view (fun l => P (a.1, l)) p3 _ fun v t G5 H5 s5 hv5 pt => hself _ _ _ ⟨x, C, dx, [("villages", w1)], rfl, s5.hh x _ nx upd_same, cl, n2, by simp, ?_⟩))
        have g5 : G5 x = none := gn s5 gx3 (by rw [upd_same]; exact fun y => by cases y)
        have st6 : Stp M G H1 G5 (upd H5 x (.ins C dx [("villages", w1), ("lines", v)])) := (st4.trans s5).mut hx g5
        exact q (a.1, t) G5 _ _ st6 g5 upd_same (.cons (s5.gg.dp y1) (.cons hv5 .nil)) pt

theorem fd_is_together {T : Tx} (B : Blt T) (f_touched_by : FD_touched_by T) {f : Addr} {fd : FuncData} (Td : TD T.K T.mg "is_together" s_is_together ["division", "party"] f fd) : FD_is_together T :=
  FD.of (β := Empty) (ζ := Unit) (sb := nofun) (sn := fun _ => []) Td sc_is_together (fun _ => rfl) (by decide) fun a =>
    (JB.one (JS.ret (JE.eq (JE.lenL B (JX.kn (JX.call f_touched_by (JA.cons (JE.var 0 a.1 rfl) (JA.cons (JE.var 1 a.2.1 rfl) JA.nil))))) JE.int)))

theorem fd_fault_of_member {T : Tx} (B : Blt T) (Cl : ClF T "Region" ["villages", "lines"]) (f_fault_of_join : FD_fault_of_join T) {f : Addr} {fd : FuncData} (Td : TD T.K T.mg "fault_of_member" s_fault_of_member ["region", "census", "division", "lines", "line"] f fd) : FD_fault_of_member T :=
  FD.of (β := Empty) (ζ := Unit) (sb := nofun) (sn := fun _ => []) Td sc_fault_of_member (fun _ => rfl) (by decide) fun a =>
    (JB.cons (JS.ite (sn := fun s12 : Unit => [.q (KIns T "Region" (eReg a.1)), .d ((eL eI) a.2.1), .d ((eL (eL eI)) a.2.2.1), .d ((eT eI) a.2.2.2.1), .d (eI a.2.2.2.2.1)]) (JW.t (JW.and (JT.leLt JE.int (JE.var 4 a.2.2.2.2.1 rfl) (JE.lenT B (JX.fld (er := eReg) (enc := (eT (eP (eT eI) eI))) Cl (fun r => r.2) (JX.varI (er := eReg) 0 a.1 rfl) (fun _ => rfl)))) (JW.and1 (JT.niT (JE.var 4 a.2.2.2.2.1 rfl) (JE.var 3 a.2.2.2.1 rfl))))) (JB.one (JS.ret (JX.someO JE.str))) (JB.nil (()) (.keep (.keep (.keep (.keep (.keep .nil))))))) (fun s12 => (JB.one (JS.ret (JX.call f_fault_of_join (JA.ins (er := eReg) (JX.varI (er := eReg) 0 a.1 rfl) (JA.cons (JE.var 1 a.2.1 rfl) (JA.cons (JE.var 2 a.2.2.1 rfl) (JA.cons (JE.var 4 a.2.2.2.2.1 rfl) JA.nil)))))))))

theorem fd_fault_of_row {T : Tx} (B : Blt T) (Cl : ClF T "Region" ["villages", "lines"]) (f_fault_of_member : FD_fault_of_member T) (f_is_together : FD_is_together T) (f_join_blocks : FD_join_blocks T) (f_singles : FD_singles T) (f_touched_by : FD_touched_by T) {f : Addr} {fd : FuncData} (Td : TD T.K T.mg "fault_of_row" s_fault_of_row ["region", "census", "party", "lines", "row"] f fd) : FD_fault_of_row T :=
  FD.of (β := Empty) (ζ := Unit) (sb := nofun) (sn := fun _ => []) Td sc_fault_of_row (fun _ => rfl) (by decide) fun a =>
    (JB.cons (JS.set 5 (JX.kn (JX.call f_singles (JA.cons (JX.fld (er := eReg) (enc := eI) Cl (fun r => r.1) (JX.varI (er := eReg) 0 a.1 rfl) (fun _ => rfl)) JA.nil)))) (fun division5 => (JB.cons (JS.for (sm := fun s7 : (List (List Int)) × Unit => [.q (KIns T "Region" (eReg a.1)), .d ((eL eI) a.2.1), .d ((eT eI) a.2.2.1), .d ((eT eI) a.2.2.2.1), .d ((eL eI) a.2.2.2.2.1), .d ((eL (eL eI)) s7.1), .no, .no, .no]) (js := [6, 7]) (division5, ()) (JI.enumL B (JE.var 4 a.2.2.2.2.1 rfl)) (JG.two (JG.name 6) (JG.name 7)) (.keep (.keep (.keep (.keep (.keep (.keep (.drop (.drop (.drop .nil))))))))) (fun x8 s7 => (JB.cons (JS.set 8 (JX.call f_fault_of_member (JA.ins (er := eReg) (JX.varI (er := eReg) 0 a.1 rfl) (JA.cons (JE.var 1 a.2.1 rfl) (JA.cons (JE.var 5 s7.1 rfl) (JA.cons (JE.var 3 a.2.2.2.1 rfl) (JA.cons (JE.var 7 x8.2 rfl) JA.nil))))))) (fun why20 => (JB.cons (JS.ite (sn := fun s27 : Unit => [.q (KIns T "Region" (eReg a.1)), .d ((eL eI) a.2.1), .d ((eT eI) a.2.2.1), .d ((eT eI) a.2.2.2.1), .d ((eL eI) a.2.2.2.2.1), .d ((eL (eL eI)) s7.1), .d (eI x8.1), .d (eI x8.2), .d ((eO eS) why20)]) (JT.notN (JE.var 8 why20 rfl)) (JB.one (JS.ret (JX.someO (JE.tup2 (JE.var 6 x8.1 rfl) (JX.unO (enc := eS) (JE.var 8 why20 rfl)))))) (JB.nil (()) (.keep (.keep (.keep (.keep (.keep (.keep (.keep (.keep (.keep .nil))))))))))) (fun s27 => (JB.cons (JS.set 5 (JX.kn (JX.call f_join_blocks (JA.cons (JE.var 5 s7.1 rfl) (JA.cons (JX.kn (JX.call f_touched_by (JA.cons (JE.var 5 s7.1 rfl) (JA.cons (JE.ixC (ea := (eP (eT eI) eI)) (eb := (eT eI)) (fun t => t.1) (JE.ixT (JX.fld (er := eReg) (enc := (eT (eP (eT eI) eI))) Cl (fun r => r.2) (JX.varI (er := eReg) 0 a.1 rfl) (fun _ => rfl)) (JE.var 7 x8.2 rfl)) (fun _ => ⟨_, rfl, rfl⟩)) JA.nil)))) JA.nil))))) (fun division41 => (JB.nil (division41, ()) (.keep (.keep (.keep (.keep (.keep (.keep (.drop (.drop (.drop .nil)))))))))))))))))) (fun s43 => (JB.cons (JS.ite (sn := fun s55 : Unit => [.q (KIns T "Region" (eReg a.1)), .d ((eL eI) a.2.1), .d ((eT eI) a.2.2.1), .d ((eT eI) a.2.2.2.1), .d ((eL eI) a.2.2.2.2.1), .d ((eL (eL eI)) s43.1), .no, .no, .no]) (JT.not (JT.val (JX.call f_is_together (JA.cons (JE.var 5 s43.1 rfl) (JA.cons (JE.var 2 a.2.2.1 rfl) JA.nil))))) (JB.one (JS.ret (JX.someO (JE.tup2 (JE.lenL B (JE.var 4 a.2.2.2.2.1 rfl)) JE.str)))) (JB.nil (()) (.keep (.keep (.keep (.keep (.keep (.keep (.drop (.drop (.drop .nil))))))))))) (fun s55 => (JB.one (JS.ret (JX.noneO (enc := (eP eI eS)) JE.non)))))))))

theorem fd_leaks {T : Tx} (B : Blt T) (Cl : ClF T "Region" ["villages", "lines"]) (f_heads_of_blocks : FD_heads_of_blocks T) (f_touched_by : FD_touched_by T) {f : Addr} {fd : FuncData} (Td : TD T.K T.mg "leaks" s_leaks ["region", "census", "division", "line"] f fd) : FD_leaks T :=
  FD.of (β := Empty) (ζ := Unit) (sb := nofun) (sn := fun _ => []) Td sc_leaks (fun _ => rfl) (by decide) fun a =>
    (JB.cons (JS.unp (js := [4, 5]) (JX.kh (JE.ixT (JX.fld (er := eReg) (enc := (eT (eP (eT eI) eI))) Cl (fun r => r.2) (JX.varI (er := eReg) 0 a.1 rfl) (fun _ => rfl)) (JE.var 3 a.2.2.2.1 rfl))) (JG.two (JG.name 4) (JG.name 5))) (fun t4 => (JB.cons (JS.setC 6 (JC.all (vs := [7]) (js := [7]) (JI.list (JX.kn (JX.call f_touched_by (JA.cons (JE.var 2 a.2.2.1 rfl) (JA.cons (JE.var 4 t4.1 rfl) JA.nil))))) (JG.name 7) (fun x10 => (JE.ixL (JE.var 2 a.2.2.1 rfl) (JE.var 7 x10 rfl))))) (fun touched15 => (JB.frz 6 rfl (JB.one (JS.ret (JE.and (JE.gt (JE.lenL B (JE.var 6 touched15 rfl)) JE.int) (JE.one (JE.ge (JX.call f_heads_of_blocks (JA.cons (JE.var 1 a.2.1 rfl) (JA.cons (JE.var 6 touched15 rfl) JA.nil))) (JE.var 5 t4.2 rfl)))))))))))

theorem fd_fault_of_split {T : Tx} (B : Blt T) (Cl : ClF T "Region" ["villages", "lines"]) (f_is_division : FD_is_division T) (f_is_together : FD_is_together T) (f_leaks : FD_leaks T) {f : Addr} {fd : FuncData} (Td : TD T.K T.mg "fault_of_split" s_fault_of_split ["region", "census", "party", "lines", "division"] f fd) : FD_fault_of_split T :=
  FD.of (β := Empty) (ζ := Unit) (sb := nofun) (sn := fun _ => []) Td sc_fault_of_split (fun _ => rfl) (by decide) fun a =>
    (JB.cons (JS.ite (sn := fun s12 : Unit => [.q (KIns T "Region" (eReg a.1)), .d ((eL eI) a.2.1), .d ((eT eI) a.2.2.1), .d ((eT eI) a.2.2.2.1), .d ((eL (eL eI)) a.2.2.2.2.1), .no]) (JT.not (JT.val (JX.call f_is_division (JA.cons (JX.fld (er := eReg) (enc := eI) Cl (fun r => r.1) (JX.varI (er := eReg) 0 a.1 rfl) (fun _ => rfl)) (JA.cons (JE.var 4 a.2.2.2.2.1 rfl) JA.nil))))) (JB.one (JS.ret (JX.someO (JE.tup2 JE.int JE.str)))) (JB.nil (()) (.keep (.keep (.keep (.keep (.keep (.drop .nil)))))))) (fun s12 => (JB.cons (JS.for (sm := fun s13 : Unit => [.q (KIns T "Region" (eReg a.1)), .d ((eL eI) a.2.1), .d ((eT eI) a.2.2.1), .d ((eT eI) a.2.2.2.1), .d ((eL (eL eI)) a.2.2.2.2.1), .no]) (js := [5]) (()) (JI.tup (JE.var 3 a.2.2.2.1 rfl)) (JG.name 5) (.keep (.keep (.keep (.keep (.keep (.drop .nil)))))) (fun x14 s13 => (JB.cons (JS.ite (sn := fun s28 : Unit => [.q (KIns T "Region" (eReg a.1)), .d ((eL eI) a.2.1), .d ((eT eI) a.2.2.1), .d ((eT eI) a.2.2.2.1), .d ((eL (eL eI)) a.2.2.2.2.1), .d (eI x14)]) (JT.val (JX.call f_leaks (JA.ins (er := eReg) (JX.varI (er := eReg) 0 a.1 rfl) (JA.cons (JE.var 1 a.2.1 rfl) (JA.cons (JE.var 4 a.2.2.2.2.1 rfl) (JA.cons (JE.var 5 x14 rfl) JA.nil)))))) (JB.one (JS.ret (JX.someO (JE.tup2 (JE.var 5 x14 rfl) JE.str)))) (JB.nil (()) (.keep (.keep (.keep (.keep (.keep (.keep .nil)))))))) (fun s28 => (JB.nil (()) (.keep (.keep (.keep (.keep (.keep (.drop .nil))))))))))) (fun s30 => (JB.cons (JS.ite (sn := fun s40 : Unit => [.q (KIns T "Region" (eReg a.1)), .d ((eL eI) a.2.1), .d ((eT eI) a.2.2.1), .d ((eT eI) a.2.2.2.1), .d ((eL (eL eI)) a.2.2.2.2.1), .no]) (JT.val (JX.call f_is_together (JA.cons (JE.var 4 a.2.2.2.2.1 rfl) (JA.cons (JE.var 2 a.2.2.1 rfl) JA.nil)))) (JB.one (JS.ret (JX.someO (JE.tup2 JE.int JE.str)))) (JB.nil (()) (.keep (.keep (.keep (.keep (.keep (.drop .nil)))))))) (fun s40 => (JB.one (JS.ret (JX.noneO (enc := (eP eI eS)) JE.non)))))))))

theorem fd_fault_of_holding {T : Tx} (B : Blt T) (f_fault_of_row : FD_fault_of_row T) (f_fault_of_split : FD_fault_of_split T) {f : Addr} {fd : FuncData} (Td : TD T.K T.mg "fault_of_holding" s_fault_of_holding ["region", "census", "party", "lines", "paper"] f fd) : FD_fault_of_holding T :=
  FD.of (β := Empty) (ζ := Unit) (sb := nofun) (sn := fun _ => []) Td sc_fault_of_holding (fun _ => rfl) (by decide) fun a =>
    (JB.cons (JS.ite (sn := fun s17 : Unit => [.q (KIns T "Region" (eReg a.1)), .d ((eL eI) a.2.1), .d ((eT eI) a.2.2.1), .d ((eT eI) a.2.2.2.1), .d ((eP eS (eSum (eL eI) (eL (eL eI)))) a.2.2.2.2.1)]) (JT.eqS (JE.ixC (ea := (eP eS (eSum (eL eI) (eL (eL eI))))) (eb := eS) (fun t => t.1) (JE.var 4 a.2.2.2.2.1 rfl) (fun _ => ⟨_, rfl, rfl⟩)) JE.str) (JB.one (JS.ret (JX.call f_fault_of_row (JA.ins (er := eReg) (JX.varI (er := eReg) 0 a.1 rfl) (JA.cons (JE.var 1 a.2.1 rfl) (JA.cons (JE.var 2 a.2.2.1 rfl) (JA.cons (JE.var 3 a.2.2.2.1 rfl) (JA.cons (JX.outl (ea := (eL eI)) (eb := (eL (eL eI))) (JE.ixC (ea := (eP eS (eSum (eL eI) (eL (eL eI))))) (eb := (eSum (eL eI) (eL (eL eI)))) (fun t => t.2) (JE.var 4 a.2.2.2.2.1 rfl) (fun _ => ⟨_, rfl, rfl⟩))) JA.nil)))))))) (JB.nil (()) (.keep (.keep (.keep (.keep (.keep .nil))))))) (fun s17 => (JB.one (JS.ret (JX.call f_fault_of_split (JA.ins (er := eReg) (JX.varI (er := eReg) 0 a.1 rfl) (JA.cons (JE.var 1 a.2.1 rfl) (JA.cons (JE.var 2 a.2.2.1 rfl) (JA.cons (JE.var 3 a.2.2.2.1 rfl) (JA.cons (JX.outr (ea := (eL eI)) (eb := (eL (eL eI))) (JE.ixC (ea := (eP eS (eSum (eL eI) (eL (eL eI))))) (eb := (eSum (eL eI) (eL (eL eI)))) (fun t => t.2) (JE.var 4 a.2.2.2.2.1 rfl) (fun _ => ⟨_, rfl, rfl⟩))) JA.nil))))))))))

theorem fd_law_stops {T : Tx} (B : Blt T) (f_law_draw : FD_law_draw T) {f : Addr} {fd : FuncData} (Td : TD T.K T.mg "_law_stops" s_law_stops ["pool", "villages", "widest"] f fd) : FD_law_stops T :=
  FD.of (β := Empty) (ζ := Unit) (sb := nofun) (sn := fun _ => []) Td sc_law_stops (fun _ => rfl) (by decide) fun a =>
    (JB.cons (JS.set 3 (JE.add JE.int (JX.call f_law_draw (JA.pool (JX.pool 0 rfl) (JA.cons (JE.max2 B JE.int (JE.sub (JE.min2 B (JE.var 2 a.2.1 rfl) (JE.var 1 a.1 rfl)) JE.int)) JA.nil))))) (fun size12 => (JB.cons (JS.set 4 (JX.kn (JL.listR1 B (JE.var 1 a.1 rfl)))) (fun left15 => (JB.cons (JS.setL 5 JL.nil) (fun stops17 => (JB.cons (JS.for (sm := fun s19 : (List Int) × (List Int) × Unit => [.p, .d (eI a.1), .d (eI a.2.1), .d (eI size12), .d ((eL eI) s19.2.1), .l (s19.1.map eI), .no, .no]) (js := [6]) (stops17, left15, ()) (JI.range1 B (JE.var 3 size12 rfl)) (JG.name 6) (.keep (.keep (.keep (.keep (.keep (.keep (.drop (.drop .nil)))))))) (fun x20 s19 => (JB.cons (JS.set 7 (JX.call f_law_draw (JA.pool (JX.pool 0 rfl) (JA.cons (JE.lenL B (JE.var 4 s19.2.1 rfl)) JA.nil)))) (fun at25 => (JB.cons (JS.app 5 (xs := s19.1) rfl (JX.kh (JE.ixL (JE.var 4 s19.2.1 rfl) (JE.var 7 at25 rfl)))) (fun t29 => (JB.cons (JS.set 4 (JX.kn (JL.cat (JX.kn (JL.slice (JE.var 4 s19.2.1 rfl) JO.none (JO.some (JE.var 7 at25 rfl)))) (JX.kn (JL.slice (JE.var 4 s19.2.1 rfl) (JO.some (JE.add (JE.var 7 at25 rfl) JE.int)) JO.none))))) (fun left43 => (JB.nil ((s19.1 ++ [t29]), left43, ()) (.keep (.keep (.keep (.keep (.keep (.keep (.drop (.drop .nil))))))))))))))))) (fun s45 => (JB.one (JS.ret (JE.tuple B (JX.kn (JL.sortedI B (JE.own 5 s45.1 rfl))))))))))))))

theorem fd_law_great {T : Tx} (B : Blt T) (f_law_draw : FD_law_draw T) {f : Addr} {fd : FuncData} (Td : TD T.K T.mg "_law_great" s_law_great ["pool", "top"] f fd) : FD_law_great T :=
  FD.of (β := Empty) (ζ := Unit) (sb := nofun) (sn := fun _ => []) Td sc_law_great (fun _ => rfl) (by decide) fun a =>
    (JB.cons (JS.set 2 (JX.call f_law_draw (JA.pool (JX.pool 0 rfl) (JA.cons JE.int JA.nil)))) (fun way4 => (JB.cons (JS.ite (sn := fun s9 : Unit => [.p, .d (eI a.1), .d (eI way4)]) (JT.eq (JE.var 2 way4 rfl) JE.int) (JB.one (JS.ret (JE.var 1 a.1 rfl))) (JB.nil (()) (.keep (.keep (.keep .nil))))) (fun s9 => (JB.cons (JS.ite (sn := fun s22 : Unit => [.p, .d (eI a.1), .d (eI way4)]) (JT.eq (JE.var 2 way4 rfl) JE.int) (JB.one (JS.ret (JE.max2 B JE.int (JE.sub (JE.sub (JE.var 1 a.1 rfl) JE.int) (JX.call f_law_draw (JA.pool (JX.pool 0 rfl) (JA.cons JE.int JA.nil))))))) (JB.nil (()) (.keep (.keep (.keep .nil))))) (fun s22 => (JB.cons (JS.ite (sn := fun s40 : Unit => [.p, .d (eI a.1), .d (eI way4)]) (JT.eq (JE.var 2 way4 rfl) JE.int) (JB.one (JS.ret (JE.add JE.int (JE.mod (JE.intI B (JE.add (JE.mul (JX.call f_law_draw (JA.pool (JX.pool 0 rfl) (JA.cons JE.int JA.nil))) JE.int) (JX.call f_law_draw (JA.pool (JX.pool 0 rfl) (JA.cons JE.int JA.nil))))) (JE.var 1 a.1 rfl))))) (JB.nil (()) (.keep (.keep (.keep .nil))))) (fun s40 => (JB.one (JS.ret (JE.add JE.int (JX.call f_law_draw (JA.pool (JX.pool 0 rfl) (JA.cons (JE.min2 B JE.int (JE.var 1 a.1 rfl)) JA.nil))))))))))))))

theorem fd_law_mixed_row {T : Tx} (B : Blt T) (f_law_draw : FD_law_draw T) {f : Addr} {fd : FuncData} (Td : TD T.K T.mg "_law_mixed_row" s_law_mixed_row ["pool", "many"] f fd) : FD_law_mixed_row T :=
  FD.of (β := Empty) (ζ := Unit) (sb := nofun) (sn := fun _ => []) Td sc_law_mixed_row (fun _ => rfl) (by decide) fun a =>
    (JB.cons (JS.set 2 (JX.kn (JL.listR1 B (JE.var 1 a.1 rfl)))) (fun left3 => (JB.cons (JS.setL 3 JL.nil) (fun row5 => (JB.cons (JS.for (sm := fun s7 : (List Int) × (List Int) × Unit => [.p, .d (eI a.1), .d ((eL eI) s7.2.1), .l (s7.1.map eI), .no, .no]) (js := [4]) (row5, left3, ()) (JI.range1 B (JE.var 1 a.1 rfl)) (JG.name 4) (.keep (.keep (.keep (.keep (.drop (.drop .nil)))))) (fun x8 s7 => (JB.cons (JS.set 5 (JX.call f_law_draw (JA.pool (JX.pool 0 rfl) (JA.cons (JE.lenL B (JE.var 2 s7.2.1 rfl)) JA.nil)))) (fun at13 => (JB.cons (JS.app 3 (xs := s7.1) rfl (JX.kh (JE.ixL (JE.var 2 s7.2.1 rfl) (JE.var 5 at13 rfl)))) (fun t17 => (JB.cons (JS.set 2 (JX.kn (JL.cat (JX.kn (JL.slice (JE.var 2 s7.2.1 rfl) JO.none (JO.some (JE.var 5 at13 rfl)))) (JX.kn (JL.slice (JE.var 2 s7.2.1 rfl) (JO.some (JE.add (JE.var 5 at13 rfl) JE.int)) JO.none))))) (fun left31 => (JB.nil ((s7.1 ++ [t17]), left31, ()) (.keep (.keep (.keep (.keep (.drop (.drop .nil))))))))))))))) (fun s33 => (JB.one (JS.retOwn 3 s33.1 rfl))))))))

theorem fd_law_labels {T : Tx} (B : Blt T)  {f : Addr} {fd : FuncData} (Td : TD T.K T.mg "_law_labels" s_law_labels ["villages", "lines", "census"] f fd) : FD_law_labels T :=
  FD.of (β := Empty) (ζ := Unit) (sb := nofun) (sn := fun _ => []) Td sc_law_labels (fun _ => rfl) (by decide) fun a =>
    (JB.cons (JS.setL 3 (JL.listR1 B (JE.var 0 a.1 rfl))) (fun labels3 => (JB.cons (JS.for (sm := fun s5 : (List Int) × Unit => [.d (eI a.1), .d ((eL (eP (eT eI) eI)) a.2.1), .d ((eL eI) a.2.2.1), .l (s5.1.map eI), .no, .no, .no, .no, .no, .no, .no, .no]) (js := [4]) (labels3, ()) (JI.range1 B (JE.var 0 a.1 rfl)) (JG.name 4) (.keep (.keep (.keep (.keep (.drop (.drop (.drop (.drop (.drop (.drop (.drop (.drop .nil)))))))))))) (fun x6 s5 => (JB.cons (JS.setLF 5 (JL.list B (JE.own 3 s5.1 rfl))) (fun before9 => (JB.frz 5 rfl (JB.cons (JS.for (sm := fun s10 : (List Int) × Unit => [.d (eI a.1), .d ((eL (eP (eT eI) eI)) a.2.1), .d ((eL eI) a.2.2.1), .l (s10.1.map eI), .d (eI x6), .d ((eL eI) before9), .no, .no, .no, .no, .no, .no]) (js := [6]) (s5.1, ()) (JI.list (JE.var 1 a.2.1 rfl)) (JG.name 6) (.keep (.keep (.keep (.keep (.keep (.keep (.drop (.drop (.drop (.drop (.drop (.drop .nil)))))))))))) (fun x11 s10 => (JB.cons (JS.setLF 7 (JL.sortedSetI B (JX.kn (JC.l (JC.all (vs := [8]) (js := [8]) (JI.tup (JE.ixC (ea := (eP (eT eI) eI)) (eb := (eT eI)) (fun t => t.1) (JE.var 6 x11 rfl) (fun _ => ⟨_, rfl, rfl⟩))) (JG.name 8) (fun x13 => (JE.ixL (JE.own 3 s10.1 rfl) (JE.var 8 x13 rfl)))))))) (fun marks19 => (JB.frz 7 rfl (JB.cons (JS.setF 9 (JE.sum B (JX.kn (JC.l (JC.one (vs := [10]) (js := [10]) (JI.range1 B (JE.var 0 a.1 rfl)) (JG.name 10) (fun x21 => (JT.inL (JE.ixL (JE.own 3 s10.1 rfl) (JE.var 10 x21 rfl)) (JE.var 7 marks19 rfl))) (fun x21 => (JE.ixL (JE.var 2 a.2.2.1 rfl) (JE.var 10 x21 rfl)))))))) (fun total31 => (JB.cons (JS.ite (sn := fun s58 : (List Int) × Unit => [.d (eI a.1), .d ((eL (eP (eT eI) eI)) a.2.1), .d ((eL eI) a.2.2.1), .l (s58.1.map eI), .d (eI x6), .d ((eL eI) before9), .d ((eP (eT eI) eI) x11), .d ((eL eI) marks19), .no, .d (eI total31), .no, .no]) (JW.t (JW.and (JT.gt (JE.lenL B (JE.var 7 marks19 rfl)) JE.int) (JW.and1 (JT.ge (JE.var 9 total31 rfl) (JE.ixC (ea := (eP (eT eI) eI)) (eb := eI) (fun t => t.2) (JE.var 6 x11 rfl) (fun _ => ⟨_, rfl, rfl⟩)))))) (JB.cons (JS.setLcF 3 (JC.l (JC.all (vs := [11]) (js := [11]) (JI.list (JE.own 3 s10.1 rfl)) (JG.name 11) (fun x49 => (JE.ite (JT.inL (JE.var 11 x49 rfl) (JE.var 7 marks19 rfl)) (JE.ixL (JE.var 7 marks19 rfl) JE.int) (JE.var 11 x49 rfl)))))) (fun labels57 => (JB.nil (labels57, ()) (.keep (.keep (.keep (.keep (.keep (.keep (.keep (.keep (.drop (.keep (.drop (.drop .nil))))))))))))))) (JB.nil (s10.1, ()) (.keep (.keep (.keep (.keep (.keep (.keep (.keep (.keep (.drop (.keep (.drop (.drop .nil)))))))))))))) (fun s58 => (JB.nil (s58.1, ()) (.keep (.keep (.keep (.keep (.keep (.keep (.drop (.drop (.drop (.drop (.drop (.drop .nil)))))))))))))))))))))) (fun s60 => (JB.cons (JS.ite (sn := fun s64 : Unit => [.d (eI a.1), .d ((eL (eP (eT eI) eI)) a.2.1), .d ((eL eI) a.2.2.1), .l (s60.1.map eI), .d (eI x6), .d ((eL eI) before9), .no, .no, .no, .no, .no, .no]) (JT.eq (JE.own 3 s60.1 rfl) (JE.var 5 before9 rfl)) (JB.one (JS.brk (s60.1, ()) (.keep (.keep (.keep (.keep (.drop (.drop (.drop (.drop (.drop (.drop (.drop (.drop .nil)))))))))))))) (JB.nil (()) (.keep (.keep (.keep (.keep (.keep (.keep (.drop (.drop (.drop (.drop (.drop (.drop .nil)))))))))))))) (fun s64 => (JB.nil (s60.1, ()) (.keep (.keep (.keep (.keep (.drop (.drop (.drop (.drop (.drop (.drop (.drop (.drop .nil)))))))))))))))))))))) (fun s66 => (JB.one (JS.retOwn 3 s66.1 rfl))))))

theorem fd_law_blocks {T : Tx} (B : Blt T)  {f : Addr} {fd : FuncData} (Td : TD T.K T.mg "_law_blocks" s_law_blocks ["labels"] f fd) : FD_law_blocks T :=
  FD.of (β := Empty) (ζ := Unit) (sb := nofun) (sn := fun _ => []) Td sc_law_blocks (fun _ => rfl) (by decide) fun a =>
    (JB.one (JS.ret (JC.l (JC.all (vs := [2]) (js := [2]) (JI.list (JX.kn (JL.sortedSetI B (JE.var 0 a.1 rfl)))) (JG.name 2) (fun x3 => (JX.kn (JC.l (JC.one (vs := [1]) (js := [1]) (JI.range1 B (JE.lenL B (JE.var 0 a.1 rfl))) (JG.name 1) (fun x6 => (JT.eq (JE.ixL (JE.var 0 a.1 rfl) (JE.var 1 x6 rfl)) (JE.var 2 x3 rfl))) (fun x6 => (JE.var 1 x6 rfl))))))))))

theorem fd_law_parting {T : Tx} (B : Blt T) (f_law_draw : FD_law_draw T) {f : Addr} {fd : FuncData} (Td : TD T.K T.mg "_law_parting" s_law_parting ["pool", "villages", "labels"] f fd) : FD_law_parting T :=
  FD.of (β := Empty) (ζ := Unit) (sb := nofun) (sn := fun _ => []) Td sc_law_parting (fun _ => rfl) (by decide) fun a =>
    (JB.cons (JS.set 3 (JX.call f_law_draw (JA.pool (JX.pool 0 rfl) (JA.cons JE.int JA.nil)))) (fun way4 => (JB.cons (JS.ite (sn := fun s10 : Unit => [.p, .d (eI a.1), .d ((eL eI) a.2.1), .d (eI way4), .no, .no, .no, .no, .no, .no, .no, .no]) (JT.eq (JE.var 3 way4 rfl) JE.int) (JB.one (JS.ret (JL.list B (JE.var 2 a.2.1 rfl)))) (JB.nil (()) (.keep (.keep (.keep (.keep (.drop (.drop (.drop (.drop (.drop (.drop (.drop (.drop .nil)))))))))))))) (fun s10 => (JB.cons (JS.ite (sn := fun s41 : Unit => [.p, .d (eI a.1), .d ((eL eI) a.2.1), .d (eI way4), .no, .no, .no, .no, .no, .no, .no, .no]) (JT.eq (JE.var 3 way4 rfl) JE.int) (JB.cons (JS.set 4 (JE.ixL (JE.var 2 a.2.1 rfl) (JX.call f_law_draw (JA.pool (JX.pool 0 rfl) (JA.cons (JE.var 1 a.1 rfl) JA.nil))))) (fun one19 => (JB.cons (JS.set 5 (JE.ixL (JE.var 2 a.2.1 rfl) (JX.call f_law_draw (JA.pool (JX.pool 0 rfl) (JA.cons (JE.var 1 a.1 rfl) JA.nil))))) (fun two25 => (JB.one (JS.ret (JC.l (JC.all (vs := [6]) (js := [6]) (JI.list (JE.var 2 a.2.1 rfl)) (JG.name 6) (fun x27 => (JE.ite (JT.inT (JE.var 6 x27 rfl) (JE.tupD (JD.cons (JE.var 4 one19 rfl) (JD.cons (JE.var 5 two25 rfl) JD.nil)))) (JE.min2 B (JE.var 4 one19 rfl) (JE.var 5 two25 rfl)) (JE.var 6 x27 rfl))))))))))) (JB.nil (()) (.keep (.keep (.keep (.keep (.drop (.drop (.drop (.drop (.drop (.drop (.drop (.drop .nil)))))))))))))) (fun s41 => (JB.cons (JS.ite (sn := fun s81 : Unit => [.p, .d (eI a.1), .d ((eL eI) a.2.1), .d (eI way4), .no, .no, .no, .no, .no, .no, .no, .no]) (JT.eq (JE.var 3 way4 rfl) JE.int) (JB.cons (JS.set 7 (JX.call f_law_draw (JA.pool (JX.pool 0 rfl) (JA.cons (JE.var 1 a.1 rfl) JA.nil)))) (fun v48 => (JB.cons (JS.setC 8 (JC.one (vs := [9]) (js := [9]) (JI.range1 B (JE.var 1 a.1 rfl)) (JG.name 9) (fun x50 => (JW.t (JW.and (JT.eq (JE.ixL (JE.var 2 a.2.1 rfl) (JE.var 9 x50 rfl)) (JE.ixL (JE.var 2 a.2.1 rfl) (JE.var 7 v48 rfl))) (JW.and1 (JT.ne (JE.var 9 x50 rfl) (JE.var 7 v48 rfl)))))) (fun x50 => (JE.var 9 x50 rfl)))) (fun rest62 => (JB.frz 8 rfl (JB.cons (JS.setL 10 (JL.list B (JE.var 2 a.2.1 rfl))) (fun found65 => (JB.cons (JS.for (sm := fun s66 : (List Int) × Unit => [.p, .d (eI a.1), .d ((eL eI) a.2.1), .d (eI way4), .no, .no, .no, .d (eI v48), .d ((eL eI) rest62), .no, .l (s66.1.map eI), .no]) (js := [9]) (found65, ()) (JI.list (JE.var 8 rest62 rfl)) (JG.name 9) (.keep (.keep (.keep (.keep (.drop (.drop (.drop (.keep (.keep (.drop (.keep (.drop .nil)))))))))))) (fun x67 s66 => (JB.cons (JS.put 10 (xs := s66.1) rfl (JX.kh (JE.minL B (JE.var 8 rest62 rfl))) (JX.kh (JE.var 9 x67 rfl))) (fun l73 => (JB.nil (l73, ()) (.keep (.keep (.keep (.keep (.drop (.drop (.drop (.keep (.keep (.drop (.keep (.drop .nil))))))))))))))))) (fun s75 => (JB.cons (JS.put 10 (xs := s75.1) rfl (JX.kh (JE.var 7 v48 rfl)) (JX.kh (JE.var 7 v48 rfl))) (fun l79 => (JB.one (JS.retOwn 10 l79 rfl))))))))))))) (JB.nil (()) (.keep (.keep (.keep (.keep (.drop (.drop (.drop (.drop (.drop (.drop (.drop (.drop .nil)))))))))))))) (fun s81 => (JB.cons (JS.setEc 11 (JX.kn (JC.l (JC.all (vs := [7]) (js := [7]) (JI.range1 B (JE.var 1 a.1 rfl)) (JG.name 7) (fun x83 => (JX.call f_law_draw (JA.pool (JX.pool 0 rfl) (JA.cons (JE.var 1 a.1 rfl) JA.nil)))))))) (fun marks88 => (JB.one (JS.ret (JC.l (JC.all (vs := [7]) (js := [7]) (JI.range1 B (JE.var 1 a.1 rfl)) (JG.name 7) (fun x91 => (JE.minL B (JX.kn (JC.l (JC.one (vs := [9]) (js := [9]) (JI.range1 B (JE.var 1 a.1 rfl)) (JG.name 9) (fun x93 => (JT.eq (JE.ixL (JE.var 11 marks88 rfl) (JE.var 9 x93 rfl)) (JE.ixL (JE.var 11 marks88 rfl) (JE.var 7 x91 rfl)))) (fun x93 => (JE.var 9 x93 rfl)))))))))))))))))))))

theorem fd_law_is_division {T : Tx} (B : Blt T)  {f : Addr} {fd : FuncData} (Td : TD T.K T.mg "_law_is_division" s_law_is_division ["villages", "blocks"] f fd) : FD_law_is_division T :=
  FD.of (β := Empty) (ζ := Unit) (sb := nofun) (sn := fun _ => []) Td sc_law_is_division (fun _ => rfl) (by decide) fun a =>
    (JB.cons (JS.setL 2 JL.nil) (fun flat2 => (JB.cons (JS.for (sm := fun s3 : (List Int) × Unit => [.d (eI a.1), .d ((eL (eL eI)) a.2.1), .l (s3.1.map eI), .no]) (js := [3]) (flat2, ()) (JI.list (JE.var 1 a.2.1 rfl)) (JG.name 3) (.keep (.keep (.keep (.drop .nil)))) (fun x4 s3 => (JB.cons (JS.ite (sn := fun s10 : Unit => [.d (eI a.1), .d ((eL (eL eI)) a.2.1), .l (s3.1.map eI), .d ((eL eI) x4)]) (JT.eq (JE.lenL B (JE.var 3 x4 rfl)) JE.int) (JB.one (JS.ret JE.bl)) (JB.nil (()) (.keep (.keep (.keep (.keep .nil)))))) (fun s10 => (JB.cons (JS.extK 2 (xs := s3.1) rfl (JX.kh (JE.var 3 x4 rfl)) (fun _ => .inl rfl)) (fun t12 => (JB.nil ((s3.1 ++ t12), ()) (.keep (.keep (.keep (.drop .nil))))))))))) (fun s14 => (JB.one (JS.ret (JE.and (JE.eq (JX.kn (JL.sortedI B (JE.own 2 s14.1 rfl))) (JX.kn (JL.listR1 B (JE.var 0 a.1 rfl)))) (JE.one (JE.eq (JE.var 1 a.2.1 rfl) (JX.kn (JL.sortedD B (JX.kn (JC.l (JC.all (vs := [3]) (js := [3]) (JI.list (JE.var 1 a.2.1 rfl)) (JG.name 3) (fun x20 => (JX.kn (JL.sortedI B (JE.var 3 x20 rfl))))))))))))))))))

theorem fd_law_marks {T : Tx} (B : Blt T)  {f : Addr} {fd : FuncData} (Td : TD T.K T.mg "_law_marks" s_law_marks ["villages", "blocks"] f fd) : FD_law_marks T :=
  FD.of (β := Empty) (ζ := Unit) (sb := nofun) (sn := fun _ => []) Td sc_law_marks (fun _ => rfl) (by decide) fun a =>
    (JB.cons (JS.setC 2 (JC.all (vs := [3]) (js := [3]) (JI.range1 B (JE.var 0 a.1 rfl)) (JG.name 3) (fun x2 => JE.int))) (fun marks5 => (JB.cons (JS.for (sm := fun s8 : (List Int) × Unit => [.d (eI a.1), .d ((eL (eL eI)) a.2.1), .l (s8.1.map eI), .no, .no]) (js := [4]) (marks5, ()) (JI.range1 B (JE.lenL B (JE.var 1 a.2.1 rfl))) (JG.name 4) (.keep (.keep (.keep (.drop (.drop .nil))))) (fun x9 s8 => (JB.cons (JS.for (sm := fun s12 : (List Int) × Unit => [.d (eI a.1), .d ((eL (eL eI)) a.2.1), .l (s12.1.map eI), .no, .d (eI x9)]) (js := [3]) (s8.1, ()) (JI.list (JE.ixL (JE.var 1 a.2.1 rfl) (JE.var 4 x9 rfl))) (JG.name 3) (.keep (.keep (.keep (.drop (.keep .nil))))) (fun x13 s12 => (JB.cons (JS.put 2 (xs := s12.1) rfl (JX.kh (JE.var 4 x9 rfl)) (JX.kh (JE.var 3 x13 rfl))) (fun l17 => (JB.nil (l17, ()) (.keep (.keep (.keep (.drop (.keep .nil)))))))))) (fun s19 => (JB.nil (s19.1, ()) (.keep (.keep (.keep (.drop (.drop .nil)))))))))) (fun s21 => (JB.one (JS.retOwn 2 s21.1 rfl))))))

theorem fd_law_bent {T : Tx} (B : Blt T) (f_law_draw : FD_law_draw T) {f : Addr} {fd : FuncData} (Td : TD T.K T.mg "_law_bent" s_law_bent ["pool", "villages", "blocks"] f fd) : FD_law_bent T :=
  FD.of (β := Empty) (ζ := Unit) (sb := nofun) (sn := fun _ => []) Td sc_law_bent (fun _ => rfl) (by decide) fun a =>
    (JB.cons (JS.set 3 (JX.call f_law_draw (JA.pool (JX.pool 0 rfl) (JA.cons JE.int JA.nil)))) (fun way4 => (JB.cons (JS.set 4 (JX.call f_law_draw (JA.pool (JX.pool 0 rfl) (JA.cons (JE.lenL B (JE.var 2 a.2.1 rfl)) JA.nil)))) (fun at9 => (JB.cons (JS.set 5 (JX.call f_law_draw (JA.pool (JX.pool 0 rfl) (JA.cons (JE.var 1 a.1 rfl) JA.nil)))) (fun v13 => (JB.cons (JS.setLc 6 (JC.l (JC.all (vs := [7]) (js := [7]) (JI.list (JE.var 2 a.2.1 rfl)) (JG.name 7) (fun x14 => (JX.kn (JL.list B (JE.var 7 x14 rfl))))))) (fun rows18 => (JB.cons (JS.ite (sn := fun s182 : (List (List Int)) × Unit => [.p, .d (eI a.1), .d ((eL (eL eI)) a.2.1), .d (eI way4), .d (eI at9), .d (eI v13), .l (s182.1.map (eL eI)), .no, .no, .no]) (JW.t (JW.and (JT.eq (JE.var 3 way4 rfl) JE.int) (JW.and1 (JT.lt (JE.add (JE.var 4 at9 rfl) JE.int) (JE.lenL B (JE.own 6 rows18 rfl)))))) (JB.frz 6 rfl (JB.cons (JS.setL 6 (JL.cat (JX.kn (JL.cat (JX.kn (JL.slice (JE.var 6 rows18 rfl) JO.none (JO.some (JE.var 4 at9 rfl)))) (JX.kn (JL.lstD (JD.cons (JE.ixL (JE.var 6 rows18 rfl) (JE.add (JE.var 4 at9 rfl) JE.int)) (JD.cons (JE.ixL (JE.var 6 rows18 rfl) (JE.var 4 at9 rfl)) JD.nil)))))) (JX.kn (JL.slice (JE.var 6 rows18 rfl) (JO.some (JE.add (JE.var 4 at9 rfl) JE.int)) JO.none)))) (fun rows131 => (JB.nil (rows131, ()) (.keep (.keep (.keep (.keep (.keep (.keep (.keep (.drop (.drop (.drop .nil)))))))))))))) (JB.nil (rows18, ()) (.keep (.keep (.keep (.keep (.keep (.keep (.keep (.drop (.drop (.drop .nil)))))))))))) (fun s182 => (JB.cons (JS.ite (sn := fun s228 : (List (List Int)) × Unit => [.p, .d (eI a.1), .d ((eL (eL eI)) a.2.1), .d (eI way4), .d (eI at9), .d (eI v13), .l (s228.1.map (eL eI)), .no, .no, .no]) (JT.eq (JE.var 3 way4 rfl) JE.int) (JB.cons (JS.putL (enc := eI) 6 (xs := s182.1) rfl (JC.l (JC.all (vs := [8]) (js := [8]) (JI.range1 B (JE.lenL B (JE.ixL (JE.own 6 s182.1 rfl) (JE.var 4 at9 rfl)))) (JG.name 8) (fun x211 => (JE.ixL (JE.ixL (JE.own 6 s182.1 rfl) (JE.var 4 at9 rfl)) (JE.sub (JE.sub (JE.lenL B (JE.ixL (JE.own 6 s182.1 rfl) (JE.var 4 at9 rfl))) JE.int) (JE.var 8 x211 rfl)))))) (JX.kh (JE.var 4 at9 rfl))) (fun l227 => (JB.nil (l227, ()) (.keep (.keep (.keep (.keep (.keep (.keep (.keep (.drop (.drop (.drop .nil))))))))))))) (JB.nil (s182.1, ()) (.keep (.keep (.keep (.keep (.keep (.keep (.keep (.drop (.drop (.drop .nil)))))))))))) (fun s228 => (JB.cons (JS.ite (sn := fun s256 : (List (List Int)) × Unit => [.p, .d (eI a.1), .d ((eL (eL eI)) a.2.1), .d (eI way4), .d (eI at9), .d (eI v13), .l (s256.1.map (eL eI)), .no, .no, .no]) (JT.eq (JE.var 3 way4 rfl) JE.int) (JB.cons (JS.putL (enc := eI) 6 (xs := s228.1) rfl (JL.sortedI B (JX.kn (JL.cat (JE.ixL (JE.own 6 s228.1 rfl) (JE.var 4 at9 rfl)) (JX.kn (JL.lstD (JD.cons (JE.var 5 v13 rfl) JD.nil)))))) (JX.kh (JE.var 4 at9 rfl))) (fun l255 => (JB.nil (l255, ()) (.keep (.keep (.keep (.keep (.keep (.keep (.keep (.drop (.drop (.drop .nil))))))))))))) (JB.nil (s228.1, ()) (.keep (.keep (.keep (.keep (.keep (.keep (.keep (.drop (.drop (.drop .nil)))))))))))) (fun s256 => (JB.cons (JS.ite (sn := fun s276 : (List (List Int)) × Unit => [.p, .d (eI a.1), .d ((eL (eL eI)) a.2.1), .d (eI way4), .d (eI at9), .d (eI v13), .l (s276.1.map (eL eI)), .no, .no, .no]) (JT.eq (JE.var 3 way4 rfl) JE.int) (JB.cons (JS.setLc 6 (JC.l (JC.all (vs := [7]) (js := [7]) (JI.list (JE.var 2 a.2.1 rfl)) (JG.name 7) (fun x268 => (JX.kn (JC.l (JC.one (vs := [9]) (js := [9]) (JI.list (JE.var 7 x268 rfl)) (JG.name 9) (fun x269 => (JT.ne (JE.var 9 x269 rfl) (JE.var 5 v13 rfl))) (fun x269 => (JE.var 9 x269 rfl))))))))) (fun rows275 => (JB.nil (rows275, ()) (.keep (.keep (.keep (.keep (.keep (.keep (.keep (.drop (.drop (.drop .nil))))))))))))) (JB.nil (s256.1, ()) (.keep (.keep (.keep (.keep (.keep (.keep (.keep (.drop (.drop (.drop .nil)))))))))))) (fun s276 => (JB.cons (JS.ite (sn := fun s374 : (List (List Int)) × Unit => [.p, .d (eI a.1), .d ((eL (eL eI)) a.2.1), .d (eI way4), .d (eI at9), .d (eI v13), .l (s374.1.map (eL eI)), .no, .no, .no]) (JT.eq (JE.var 3 way4 rfl) JE.int) (JB.frz 6 rfl (JB.cons (JS.setL 6 (JL.cat (JX.kn (JL.cat (JX.kn (JL.slice (JE.var 6 s276.1 rfl) JO.none (JO.some (JE.var 4 at9 rfl)))) (JX.kn (JL.lstD (JD.cons (JX.kn JL.nil) JD.nil))))) (JX.kn (JL.slice (JE.var 6 s276.1 rfl) (JO.some (JE.var 4 at9 rfl)) JO.none)))) (fun rows343 => (JB.nil (rows343, ()) (.keep (.keep (.keep (.keep (.keep (.keep (.keep (.drop (.drop (.drop .nil)))))))))))))) (JB.nil (s276.1, ()) (.keep (.keep (.keep (.keep (.keep (.keep (.keep (.drop (.drop (.drop .nil)))))))))))) (fun s374 => (JB.cons (JS.ite (sn := fun s400 : (List (List Int)) × Unit => [.p, .d (eI a.1), .d ((eL (eL eI)) a.2.1), .d (eI way4), .d (eI at9), .d (eI v13), .l (s400.1.map (eL eI)), .no, .no, .no]) (JT.eq (JE.var 3 way4 rfl) JE.int) (JB.cons (JS.putL (enc := eI) 6 (xs := s374.1) rfl (JL.cat (JE.ixL (JE.own 6 s374.1 rfl) (JE.var 4 at9 rfl)) (JX.kn (JL.lstD (JD.cons (JE.var 1 a.1 rfl) JD.nil)))) (JX.kh (JE.var 4 at9 rfl))) (fun l399 => (JB.nil (l399, ()) (.keep (.keep (.keep (.keep (.keep (.keep (.keep (.drop (.drop (.drop .nil))))))))))))) (JB.nil (s374.1, ()) (.keep (.keep (.keep (.keep (.keep (.keep (.keep (.drop (.drop (.drop .nil)))))))))))) (fun s400 => (JB.cons (JS.ite (sn := fun s462 : (List (List Int)) × Unit => [.p, .d (eI a.1), .d ((eL (eL eI)) a.2.1), .d (eI way4), .d (eI at9), .d (eI v13), .l (s462.1.map (eL eI)), .no, .no, .no]) (JT.eq (JE.var 3 way4 rfl) JE.int) (JB.frz 6 rfl (JB.cons (JS.setL 6 (JL.cat (JX.kn (JL.lstD (JD.cons (JX.kn (JL.lstD (JD.cons (JE.neg JE.int) JD.nil))) JD.nil))) (JE.var 6 s400.1 rfl))) (fun rows443 => (JB.nil (rows443, ()) (.keep (.keep (.keep (.keep (.keep (.keep (.keep (.drop (.drop (.drop .nil)))))))))))))) (JB.nil (s400.1, ()) (.keep (.keep (.keep (.keep (.keep (.keep (.keep (.drop (.drop (.drop .nil)))))))))))) (fun s462 => (JB.cons (JS.ite (sn := fun s492 : (List (List Int)) × Unit => [.p, .d (eI a.1), .d ((eL (eL eI)) a.2.1), .d (eI way4), .d (eI at9), .d (eI v13), .l (s492.1.map (eL eI)), .no, .no, .no]) (JT.eq (JE.var 3 way4 rfl) JE.int) (JB.cons (JS.setLc 6 (JC.l (JC.all (vs := [7]) (js := [7]) (JI.list (JE.var 2 a.2.1 rfl)) (JG.name 7) (fun x479 => (JX.kn (JC.l (JC.all (vs := [9]) (js := [9]) (JI.list (JE.var 7 x479 rfl)) (JG.name 9) (fun x480 => (JE.sub (JE.var 9 x480 rfl) (JE.mul (JE.var 1 a.1 rfl) (JE.intB B (JE.eq (JE.var 9 x480 rfl) (JE.var 5 v13 rfl))))))))))))) (fun rows491 => (JB.nil (rows491, ()) (.keep (.keep (.keep (.keep (.keep (.keep (.keep (.drop (.drop (.drop .nil))))))))))))) (JB.nil (s462.1, ()) (.keep (.keep (.keep (.keep (.keep (.keep (.keep (.drop (.drop (.drop .nil)))))))))))) (fun s492 => (JB.one (JS.retOwn 6 s492.1 rfl))))))))))))))))))))))))))

theorem fd_law_lines_by {T : Tx} (B : Blt T) (f_law_draw : FD_law_draw T) (f_law_great : FD_law_great T) (f_law_labels : FD_law_labels T) (f_law_stops : FD_law_stops T) {f : Addr} {fd : FuncData} (Td : TD T.K T.mg "_law_lines_by" s_law_lines_by ["pool", "villages", "census", "many", "widest", "top"] f fd) : FD_law_lines_by T :=
  FD.of (β := Empty) (ζ := Unit) (sb := nofun) (sn := fun _ => []) Td sc_law_lines_by (fun _ => rfl) (by decide) fun a =>
    (JB.cons (JS.setL 6 JL.nil) (fun lines2 => (JB.cons (JS.for (sm := fun s4 : (List ((List Int) × Int)) × Unit => [.p, .d (eI a.1), .d ((eL eI) a.2.1), .d (eI a.2.2.1), .d (eI a.2.2.2.1), .d (eI a.2.2.2.2.1), .l (s4.1.map (eP (eT eI) eI)), .no, .no, .no, .no, .no, .no, .no, .no]) (js := [7]) (lines2, ()) (JI.range1 B (JE.var 3 a.2.2.1 rfl)) (JG.name 7) (.keep (.keep (.keep (.keep (.keep (.keep (.keep (.drop (.drop (.drop (.drop (.drop (.drop (.drop (.drop .nil))))))))))))))) (fun x5 s4 => (JB.cons (JS.set 8 (JX.call f_law_stops (JA.pool (JX.pool 0 rfl) (JA.cons (JE.var 1 a.1 rfl) (JA.cons (JE.var 4 a.2.2.2.1 rfl) JA.nil))))) (fun stops11 => (JB.cons (JS.setLF 9 (JX.call f_law_labels (JA.cons (JE.var 1 a.1 rfl) (JA.cons (JE.own 6 s4.1 rfl) (JA.cons (JE.var 2 a.2.1 rfl) JA.nil))))) (fun labels19 => (JB.frz 9 rfl (JB.cons (JS.setEc 10 (JX.kn (JC.l (JC.all (vs := [11]) (js := [11]) (JI.tup (JE.var 8 stops11 rfl)) (JG.name 11) (fun x20 => (JE.ixL (JE.var 9 labels19 rfl) (JE.var 11 x20 rfl))))))) (fun marks25 => (JB.cons (JS.set 12 (JE.sum B (JX.kn (JC.l (JC.one (vs := [11]) (js := [11]) (JI.range1 B (JE.var 1 a.1 rfl)) (JG.name 11) (fun x27 => (JT.inL (JE.ixL (JE.var 9 labels19 rfl) (JE.var 11 x27 rfl)) (JE.var 10 marks25 rfl))) (fun x27 => (JE.ixL (JE.var 2 a.2.1 rfl) (JE.var 11 x27 rfl)))))))) (fun reach37 => (JB.cons (JS.set 13 (JX.call f_law_draw (JA.pool (JX.pool 0 rfl) (JA.cons JE.int JA.nil)))) (fun way41 => (JB.cons (JS.set 14 (JE.add JE.int (JX.call f_law_draw (JA.pool (JX.pool 0 rfl) (JA.cons (JE.add (JE.min2 B (JE.sum B (JE.var 2 a.2.1 rfl)) (JE.pow JE.int JE.int)) JE.int) JA.nil))))) (fun number54 => (JB.cons (JS.ite (sn := fun s69 : Int × Unit => [.p, .d (eI a.1), .d ((eL eI) a.2.1), .d (eI a.2.2.1), .d (eI a.2.2.2.1), .d (eI a.2.2.2.2.1), .l (s4.1.map (eP (eT eI) eI)), .d (eI x5), .d ((eT eI) stops11), .d ((eL eI) labels19), .d ((eL eI) marks25), .no, .d (eI reach37), .d (eI way41), .d (eI s69.1)]) (JW.t (JW.and (JT.eq (JE.var 13 way41 rfl) JE.int) (JW.and1 (JT.gt (JE.var 5 a.2.2.2.2.1 rfl) JE.int)))) (JB.cons (JS.set 14 (JX.call f_law_great (JA.pool (JX.pool 0 rfl) (JA.cons (JE.var 5 a.2.2.2.2.1 rfl) JA.nil)))) (fun number68 => (JB.nil (number68, ()) (.keep (.keep (.keep (.keep (.keep (.keep (.keep (.keep (.keep (.keep (.keep (.drop (.keep (.keep (.keep .nil)))))))))))))))))) (JB.nil (number54, ()) (.keep (.keep (.keep (.keep (.keep (.keep (.keep (.keep (.keep (.keep (.keep (.drop (.keep (.keep (.keep .nil))))))))))))))))) (fun s69 => (JB.cons (JS.ite (sn := fun s80 : Int × Unit => [.p, .d (eI a.1), .d ((eL eI) a.2.1), .d (eI a.2.2.1), .d (eI a.2.2.2.1), .d (eI a.2.2.2.2.1), .l (s4.1.map (eP (eT eI) eI)), .d (eI x5), .d ((eT eI) stops11), .d ((eL eI) labels19), .d ((eL eI) marks25), .no, .d (eI reach37), .d (eI way41), .d (eI s80.1)]) (JW.t (JW.or (JT.eq (JE.var 13 way41 rfl) JE.int) (JW.or1 (JT.eq (JE.var 13 way41 rfl) JE.int)))) (JB.cons (JS.set 14 (JE.var 12 reach37 rfl)) (fun number79 => (JB.nil (number79, ()) (.keep (.keep (.keep (.keep (.keep (.keep (.keep (.keep (.keep (.keep (.keep (.drop (.keep (.keep (.keep .nil)))))))))))))))))) (JB.nil (s69.1, ()) (.keep (.keep (.keep (.keep (.keep (.keep (.keep (.keep (.keep (.keep (.keep (.drop (.keep (.keep (.keep .nil))))))))))))))))) (fun s80 => (JB.cons (JS.ite (sn := fun s92 : Int × Unit => [.p, .d (eI a.1), .d ((eL eI) a.2.1), .d (eI a.2.2.1), .d (eI a.2.2.2.1), .d (eI a.2.2.2.2.1), .l (s4.1.map (eP (eT eI) eI)), .d (eI x5), .d ((eT eI) stops11), .d ((eL eI) labels19), .d ((eL eI) marks25), .no, .d (eI reach37), .d (eI way41), .d (eI s92.1)]) (JT.eq (JE.var 13 way41 rfl) JE.int) (JB.cons (JS.set 14 (JE.add (JE.var 12 reach37 rfl) JE.int)) (fun number91 => (JB.nil (number91, ()) (.keep (.keep (.keep (.keep (.keep (.keep (.keep (.keep (.keep (.keep (.keep (.drop (.keep (.keep (.keep .nil)))))))))))))))))) (JB.nil (s80.1, ()) (.keep (.keep (.keep (.keep (.keep (.keep (.keep (.keep (.keep (.keep (.keep (.drop (.keep (.keep (.keep .nil))))))))))))))))) (fun s92 => (JB.cons (JS.ite (sn := fun s111 : Int × Unit => [.p, .d (eI a.1), .d ((eL eI) a.2.1), .d (eI a.2.2.1), .d (eI a.2.2.2.1), .d (eI a.2.2.2.2.1), .l (s4.1.map (eP (eT eI) eI)), .d (eI x5), .d ((eT eI) stops11), .d ((eL eI) labels19), .d ((eL eI) marks25), .no, .d (eI reach37), .d (eI way41), .d (eI s111.1)]) (JW.t (JW.and (JT.gt (JE.var 13 way41 rfl) JE.int) (JW.and1 (JT.gt (JE.var 12 reach37 rfl) JE.int)))) (JB.cons (JS.set 14 (JE.add JE.int (JX.call f_law_draw (JA.pool (JX.pool 0 rfl) (JA.cons (JE.var 12 reach37 rfl) JA.nil))))) (fun number110 => (JB.nil (number110, ()) (.keep (.keep (.keep (.keep (.keep (.keep (.keep (.keep (.keep (.keep (.keep (.drop (.keep (.keep (.keep .nil)))))))))))))))))) (JB.nil (s92.1, ()) (.keep (.keep (.keep (.keep (.keep (.keep (.keep (.keep (.keep (.keep (.keep (.drop (.keep (.keep (.keep .nil))))))))))))))))) (fun s111 => (JB.cons (JS.app 6 (xs := s4.1) rfl (JX.kh (JE.tup2 (JE.var 8 stops11 rfl) (JE.max2 B JE.int (JE.min2 B (JE.var 14 s111.1 rfl) (JE.pow JE.int JE.int)))))) (fun t121 => (JB.nil ((s4.1 ++ [t121]), ()) (.keep (.keep (.keep (.keep (.keep (.keep (.keep (.drop (.drop (.drop (.drop (.drop (.drop (.drop (.drop .nil))))))))))))))))))))))))))))))))))))))))) (fun s123 => (JB.one (JS.retOwn 6 s123.1 rfl))))))

theorem fd_law_party {T : Tx} (B : Blt T) (f_law_draw : FD_law_draw T) (f_law_mixed_row : FD_law_mixed_row T) {f : Addr} {fd : FuncData} (Td : TD T.K T.mg "_law_party" s_law_party ["pool", "villages"] f fd) : FD_law_party T :=
  FD.of (β := Empty) (ζ := Unit) (sb := nofun) (sn := fun _ => []) Td sc_law_party (fun _ => rfl) (by decide) fun a =>
    (JB.cons (JS.set 2 (JX.kn (JX.call f_law_mixed_row (JA.pool (JX.pool 0 rfl) (JA.cons (JE.var 1 a.1 rfl) JA.nil))))) (fun row4 => (JB.one (JS.ret (JE.tuple B (JX.kn (JL.sortedI B (JX.kn (JL.slice (JE.var 2 row4 rfl) JO.none (JO.some (JE.add JE.int (JX.call f_law_draw (JA.pool (JX.pool 0 rfl) (JA.cons (JE.min2 B JE.int (JE.sub (JE.var 1 a.1 rfl) JE.int)) JA.nil))))))))))))))

theorem fd_law_county {T : Tx} (B : Blt T) (f_law_draw : FD_law_draw T) (f_law_great : FD_law_great T) (f_law_lines_by : FD_law_lines_by T) (f_law_party : FD_law_party T) {f : Addr} {fd : FuncData} (Td : TD T.K T.mg "_law_county" s_law_county ["pool", "most"] f fd) : FD_law_county T :=
  FD.of (β := Empty) (ζ := Unit) (sb := nofun) (sn := fun _ => []) Td sc_law_county (fun _ => rfl) (by decide) fun a =>
    (JB.cons (JS.set 2 (JE.eq (JX.call f_law_draw (JA.pool (JX.pool 0 rfl) (JA.cons JE.int JA.nil))) JE.int)) (fun wide6 => (JB.cons (JS.set 3 (JE.ixL (JX.kn (JL.lstD (JD.cons JE.int (JD.cons JE.int (JD.cons JE.int (JD.cons JE.int (JD.cons JE.int (JD.cons JE.int (JD.cons JE.int (JD.cons JE.int JD.nil)))))))))) (JX.call f_law_draw (JA.pool (JX.pool 0 rfl) (JA.cons JE.int JA.nil))))) (fun villages29 => (JB.cons (JS.set 4 (JE.ixL (JX.kn (JL.lstD (JD.cons JE.int (JD.cons JE.int (JD.cons JE.int (JD.cons JE.int (JD.cons JE.int (JD.cons JE.int (JD.cons JE.int (JD.cons JE.int JD.nil)))))))))) (JX.call f_law_draw (JA.pool (JX.pool 0 rfl) (JA.cons JE.int JA.nil))))) (fun many52 => (JB.cons (JS.set 5 (JE.add JE.int (JX.call f_law_draw (JA.pool (JX.pool 0 rfl) (JA.cons JE.int JA.nil))))) (fun widest58 => (JB.cons (JS.set 6 JE.int) (fun top60 => (JB.cons (JS.setL 7 JL.nil) (fun census62 => (JB.cons (JS.ite (sn := fun s150 : Int × Int × Int × Int × (List Int) × Unit => [.p, .d (eI a.1), .d (eB wide6), .d (eI s150.1), .d (eI s150.2.1), .d (eI s150.2.2.1), .d (eI s150.2.2.2.1), .l (s150.2.2.2.2.1.map eI), .no, .no]) (JT.val (JE.var 2 wide6 rfl)) (JB.cons (JS.set 3 (JE.add JE.int (JX.call f_law_draw (JA.pool (JX.pool 0 rfl) (JA.cons (JE.sub (JE.var 1 a.1 rfl) JE.int) JA.nil))))) (fun villages114 => (JB.cons (JS.set 4 (JX.call f_law_draw (JA.pool (JX.pool 0 rfl) (JA.cons JE.int JA.nil)))) (fun many118 => (JB.cons (JS.set 5 JE.int) (fun widest120 => (JB.cons (JS.set 6 (JE.pow JE.int JE.int)) (fun top124 => (JB.cons (JS.for (sm := fun s126 : (List Int) × Unit => [.p, .d (eI a.1), .d (eB wide6), .d (eI villages114), .d (eI many118), .d (eI widest120), .d (eI top124), .l (s126.1.map eI), .no, .no]) (js := [8]) (census62, ()) (JI.range1 B (JE.var 3 villages114 rfl)) (JG.name 8) (.keep (.keep (.keep (.keep (.keep (.keep (.keep (.keep (.drop (.drop .nil)))))))))) (fun x127 s126 => (JB.cons (JS.app 7 (xs := s126.1) rfl (JX.kh (JE.mul (JX.call f_law_great (JA.pool (JX.pool 0 rfl) (JA.cons (JE.pow JE.int JE.int) JA.nil))) (JE.intB B (JE.gt (JX.call f_law_draw (JA.pool (JX.pool 0 rfl) (JA.cons JE.int JA.nil))) JE.int))))) (fun t140 => (JB.nil ((s126.1 ++ [t140]), ()) (.keep (.keep (.keep (.keep (.keep (.keep (.keep (.keep (.drop (.drop .nil))))))))))))))) (fun s142 => (JB.nil (villages114, many118, widest120, top124, s142.1, ()) (.keep (.keep (.keep (.keep (.keep (.keep (.keep (.keep (.drop (.drop .nil))))))))))))))))))))) (JB.cons (JS.setC 7 (JC.all (vs := [8]) (js := [8]) (JI.range1 B (JE.var 3 villages29 rfl)) (JG.name 8) (fun x144 => (JX.call f_law_draw (JA.pool (JX.pool 0 rfl) (JA.cons JE.int JA.nil)))))) (fun census149 => (JB.nil (villages29, many52, widest58, top60, census149, ()) (.keep (.keep (.keep (.keep (.keep (.keep (.keep (.keep (.drop (.drop .nil)))))))))))))) (fun s150 => (JB.cons (JS.setLF 9 (JX.call f_law_lines_by (JA.pool (JX.pool 0 rfl) (JA.cons (JE.var 3 s150.1 rfl) (JA.cons (JE.own 7 s150.2.2.2.2.1 rfl) (JA.cons (JE.var 4 s150.2.1 rfl) (JA.cons (JE.var 5 s150.2.2.1 rfl) (JA.cons (JE.var 6 s150.2.2.2.1 rfl) JA.nil)))))))) (fun lines162 => (JB.frz 9 rfl (JB.one (JS.ret (JE.tup4 (JE.var 3 s150.1 rfl) (JE.var 9 lines162 rfl) (JE.own 7 s150.2.2.2.2.1 rfl) (JX.call f_law_party (JA.pool (JX.pool 0 rfl) (JA.cons (JE.var 3 s150.1 rfl) JA.nil)))))))))))))))))))))))

theorem fd_law_some_lines {T : Tx} (B : Blt T)  {f : Addr} {fd : FuncData} (Td : TD T.K T.mg "_law_some_lines" s_law_some_lines ["lines", "row"] f fd) : FD_law_some_lines T :=
  FD.of (β := Empty) (ζ := Unit) (sb := nofun) (sn := fun _ => []) Td sc_law_some_lines (fun _ => rfl) (by decide) fun a =>
    (JB.one (JS.ret (JC.l (JC.all (vs := [2]) (js := [2]) (JI.tup (JE.var 1 a.2.1 rfl)) (JG.name 2) (fun x2 => (JE.ixL (JE.var 0 a.1 rfl) (JE.var 2 x2 rfl)))))))

theorem fd_law_together {T : Tx} (B : Blt T)  {f : Addr} {fd : FuncData} (Td : TD T.K T.mg "_law_together" s_law_together ["labels", "party"] f fd) : FD_law_together T :=
  FD.of (β := Empty) (ζ := Unit) (sb := nofun) (sn := fun _ => []) Td sc_law_together (fun _ => rfl) (by decide) fun a =>
    (JB.one (JS.ret (JE.eq (JE.lenSetI B (JX.kn (JC.l (JC.all (vs := [2]) (js := [2]) (JI.tup (JE.var 1 a.2.1 rfl)) (JG.name 2) (fun x2 => (JE.ixL (JE.var 0 a.1 rfl) (JE.var 2 x2 rfl))))))) JE.int)))

theorem fd_law_row_fault {T : Tx} (B : Blt T) (f_law_together : FD_law_together T) {f : Addr} {fd : FuncData} (Td : TD T.K T.mg "_law_row_fault" s_law_row_fault ["villages", "lines", "census", "party", "chosen", "row"] f fd) : FD_law_row_fault T :=
  FD.of (β := Empty) (ζ := Unit) (sb := nofun) (sn := fun _ => []) Td sc_law_row_fault (fun _ => rfl) (by decide) fun a =>
    (JB.cons (JS.set 6 (JX.kn (JL.listR1 B (JE.var 0 a.1 rfl)))) (fun labels3 => (JB.cons (JS.for (sm := fun s6 : (List Int) × Unit => [.d (eI a.1), .d ((eL (eP (eT eI) eI)) a.2.1), .d ((eL eI) a.2.2.1), .d ((eT eI) a.2.2.2.1), .d ((eT eI) a.2.2.2.2.1), .d ((eL eI) a.2.2.2.2.2.1), .d ((eL eI) s6.1), .no, .no, .no, .no, .no]) (js := [7]) (labels3, ()) (JI.range1 B (JE.lenL B (JE.var 5 a.2.2.2.2.2.1 rfl))) (JG.name 7) (.keep (.keep (.keep (.keep (.keep (.keep (.keep (.drop (.drop (.drop (.drop (.drop .nil)))))))))))) (fun x7 s6 => (JB.cons (JS.set 8 (JE.ixL (JE.var 5 a.2.2.2.2.2.1 rfl) (JE.var 7 x7 rfl))) (fun at11 => (JB.cons (JS.ite (sn := fun s22 : Unit => [.d (eI a.1), .d ((eL (eP (eT eI) eI)) a.2.1), .d ((eL eI) a.2.2.1), .d ((eT eI) a.2.2.2.1), .d ((eT eI) a.2.2.2.2.1), .d ((eL eI) a.2.2.2.2.2.1), .d ((eL eI) s6.1), .d (eI x7), .d (eI at11), .no, .no, .no]) (JT.not (JT.leLt JE.int (JE.var 8 at11 rfl) (JE.lenL B (JE.var 1 a.2.1 rfl)))) (JB.one (JS.ret (JX.someO (JE.tup2 (JE.var 7 x7 rfl) JE.str)))) (JB.nil (()) (.keep (.keep (.keep (.keep (.keep (.keep (.keep (.keep (.keep (.drop (.drop (.drop .nil)))))))))))))) (fun s22 => (JB.cons (JS.ite (sn := fun s30 : Unit => [.d (eI a.1), .d ((eL (eP (eT eI) eI)) a.2.1), .d ((eL eI) a.2.2.1), .d ((eT eI) a.2.2.2.1), .d ((eT eI) a.2.2.2.2.1), .d ((eL eI) a.2.2.2.2.2.1), .d ((eL eI) s6.1), .d (eI x7), .d (eI at11), .no, .no, .no]) (JT.niT (JE.var 8 at11 rfl) (JE.var 4 a.2.2.2.2.1 rfl)) (JB.one (JS.ret (JX.someO (JE.tup2 (JE.var 7 x7 rfl) JE.str)))) (JB.nil (()) (.keep (.keep (.keep (.keep (.keep (.keep (.keep (.keep (.keep (.drop (.drop (.drop .nil)))))))))))))) (fun s30 => (JB.cons (JS.set 9 (JX.kn (JL.sortedSetI B (JX.kn (JC.l (JC.all (vs := [10]) (js := [10]) (JI.tup (JE.ixC (ea := (eP (eT eI) eI)) (eb := (eT eI)) (fun t => t.1) (JE.ixL (JE.var 1 a.2.1 rfl) (JE.var 8 at11 rfl)) (fun _ => ⟨_, rfl, rfl⟩))) (JG.name 10) (fun x34 => (JE.ixL (JE.var 6 s6.1 rfl) (JE.var 10 x34 rfl))))))))) (fun marks40 => (JB.cons (JS.ite (sn := fun s49 : Unit => [.d (eI a.1), .d ((eL (eP (eT eI) eI)) a.2.1), .d ((eL eI) a.2.2.1), .d ((eT eI) a.2.2.2.1), .d ((eT eI) a.2.2.2.2.1), .d ((eL eI) a.2.2.2.2.2.1), .d ((eL eI) s6.1), .d (eI x7), .d (eI at11), .d ((eL eI) marks40), .no, .no]) (JT.lt (JE.lenL B (JE.var 9 marks40 rfl)) JE.int) (JB.one (JS.ret (JX.someO (JE.tup2 (JE.var 7 x7 rfl) JE.str)))) (JB.nil (()) (.keep (.keep (.keep (.keep (.keep (.keep (.keep (.keep (.keep (.keep (.drop (.drop .nil)))))))))))))) (fun s49 => (JB.cons (JS.ite (sn := fun s70 : Unit => [.d (eI a.1), .d ((eL (eP (eT eI) eI)) a.2.1), .d ((eL eI) a.2.2.1), .d ((eT eI) a.2.2.2.1), .d ((eT eI) a.2.2.2.2.1), .d ((eL eI) a.2.2.2.2.2.1), .d ((eL eI) s6.1), .d (eI x7), .d (eI at11), .d ((eL eI) marks40), .no, .no]) (JT.lt (JE.sum B (JX.kn (JC.l (JC.one (vs := [10]) (js := [10]) (JI.range1 B (JE.var 0 a.1 rfl)) (JG.name 10) (fun x51 => (JT.inL (JE.ixL (JE.var 6 s6.1 rfl) (JE.var 10 x51 rfl)) (JE.var 9 marks40 rfl))) (fun x51 => (JE.ixL (JE.var 2 a.2.2.1 rfl) (JE.var 10 x51 rfl))))))) (JE.ixC (ea := (eP (eT eI) eI)) (eb := eI) (fun t => t.2) (JE.ixL (JE.var 1 a.2.1 rfl) (JE.var 8 at11 rfl)) (fun _ => ⟨_, rfl, rfl⟩))) (JB.one (JS.ret (JX.someO (JE.tup2 (JE.var 7 x7 rfl) JE.str)))) (JB.nil (()) (.keep (.keep (.keep (.keep (.keep (.keep (.keep (.keep (.keep (.keep (.drop (.drop .nil)))))))))))))) (fun s70 => (JB.cons (JS.setEc 6 (JX.kn (JC.l (JC.all (vs := [11]) (js := [11]) (JI.list (JE.var 6 s6.1 rfl)) (JG.name 11) (fun x71 => (JE.ite (JT.inL (JE.var 11 x71 rfl) (JE.var 9 marks40 rfl)) (JE.ixL (JE.var 9 marks40 rfl) JE.int) (JE.var 11 x71 rfl))))))) (fun labels79 => (JB.nil (labels79, ()) (.keep (.keep (.keep (.keep (.keep (.keep (.keep (.drop (.drop (.drop (.drop (.drop .nil))))))))))))))))))))))))))))) (fun s81 => (JB.cons (JS.ite (sn := fun s93 : Unit => [.d (eI a.1), .d ((eL (eP (eT eI) eI)) a.2.1), .d ((eL eI) a.2.2.1), .d ((eT eI) a.2.2.2.1), .d ((eT eI) a.2.2.2.2.1), .d ((eL eI) a.2.2.2.2.2.1), .d ((eL eI) s81.1), .no, .no, .no, .no, .no]) (JT.not (JT.val (JX.call f_law_together (JA.cons (JE.var 6 s81.1 rfl) (JA.cons (JE.var 3 a.2.2.2.1 rfl) JA.nil))))) (JB.one (JS.ret (JX.someO (JE.tup2 (JE.lenL B (JE.var 5 a.2.2.2.2.2.1 rfl)) JE.str)))) (JB.nil (()) (.keep (.keep (.keep (.keep (.keep (.keep (.keep (.drop (.drop (.drop (.drop (.drop .nil)))))))))))))) (fun s93 => (JB.one (JS.ret (JX.noneO (enc := (eP eI eS)) JE.non)))))))))

theorem fd_law_split_fault {T : Tx} (B : Blt T) (f_law_is_division : FD_law_is_division T) (f_law_marks : FD_law_marks T) (f_law_together : FD_law_together T) {f : Addr} {fd : FuncData} (Td : TD T.K T.mg "_law_split_fault" s_law_split_fault ["villages", "lines", "census", "party", "chosen", "blocks"] f fd) : FD_law_split_fault T :=
  FD.of (β := Empty) (ζ := Unit) (sb := nofun) (sn := fun _ => []) Td sc_law_split_fault (fun _ => rfl) (by decide) fun a =>
    (JB.cons (JS.ite (sn := fun s11 : Unit => [.d (eI a.1), .d ((eL (eP (eT eI) eI)) a.2.1), .d ((eL eI) a.2.2.1), .d ((eT eI) a.2.2.2.1), .d ((eT eI) a.2.2.2.2.1), .d ((eL (eL eI)) a.2.2.2.2.2.1), .no, .no, .no, .no]) (JT.not (JT.val (JX.call f_law_is_division (JA.cons (JE.var 0 a.1 rfl) (JA.cons (JE.var 5 a.2.2.2.2.2.1 rfl) JA.nil))))) (JB.one (JS.ret (JX.someO (JE.tup2 JE.int JE.str)))) (JB.nil (()) (.keep (.keep (.keep (.keep (.keep (.keep (.drop (.drop (.drop (.drop .nil)))))))))))) (fun s11 => (JB.cons (JS.set 6 (JX.kn (JX.call f_law_marks (JA.cons (JE.var 0 a.1 rfl) (JA.cons (JE.var 5 a.2.2.2.2.2.1 rfl) JA.nil))))) (fun marks17 => (JB.cons (JS.for (sm := fun s18 : Unit => [.d (eI a.1), .d ((eL (eP (eT eI) eI)) a.2.1), .d ((eL eI) a.2.2.1), .d ((eT eI) a.2.2.2.1), .d ((eT eI) a.2.2.2.2.1), .d ((eL (eL eI)) a.2.2.2.2.2.1), .d ((eL eI) marks17), .no, .no, .no]) (js := [7]) (()) (JI.tup (JE.var 4 a.2.2.2.2.1 rfl)) (JG.name 7) (.keep (.keep (.keep (.keep (.keep (.keep (.keep (.drop (.drop (.drop .nil)))))))))) (fun x19 s18 => (JB.cons (JS.set 8 (JX.kn (JL.sortedSetI B (JX.kn (JC.l (JC.all (vs := [9]) (js := [9]) (JI.tup (JE.ixC (ea := (eP (eT eI) eI)) (eb := (eT eI)) (fun t => t.1) (JE.ixL (JE.var 1 a.2.1 rfl) (JE.var 7 x19 rfl)) (fun _ => ⟨_, rfl, rfl⟩))) (JG.name 9) (fun x23 => (JE.ixL (JE.var 6 marks17 rfl) (JE.var 9 x23 rfl))))))))) (fun hit29 => (JB.cons (JS.ite (sn := fun s54 : Unit => [.d (eI a.1), .d ((eL (eP (eT eI) eI)) a.2.1), .d ((eL eI) a.2.2.1), .d ((eT eI) a.2.2.2.1), .d ((eT eI) a.2.2.2.2.1), .d ((eL (eL eI)) a.2.2.2.2.2.1), .d ((eL eI) marks17), .d (eI x19), .d ((eL eI) hit29), .no]) (JW.t (JW.and (JT.gt (JE.lenL B (JE.var 8 hit29 rfl)) JE.int) (JW.and1 (JT.ge (JE.sum B (JX.kn (JC.l (JC.one (vs := [9]) (js := [9]) (JI.range1 B (JE.var 0 a.1 rfl)) (JG.name 9) (fun x34 => (JT.inL (JE.ixL (JE.var 6 marks17 rfl) (JE.var 9 x34 rfl)) (JE.var 8 hit29 rfl))) (fun x34 => (JE.ixL (JE.var 2 a.2.2.1 rfl) (JE.var 9 x34 rfl))))))) (JE.ixC (ea := (eP (eT eI) eI)) (eb := eI) (fun t => t.2) (JE.ixL (JE.var 1 a.2.1 rfl) (JE.var 7 x19 rfl)) (fun _ => ⟨_, rfl, rfl⟩)))))) (JB.one (JS.ret (JX.someO (JE.tup2 (JE.var 7 x19 rfl) JE.str)))) (JB.nil (()) (.keep (.keep (.keep (.keep (.keep (.keep (.keep (.keep (.keep (.drop .nil)))))))))))) (fun s54 => (JB.nil (()) (.keep (.keep (.keep (.keep (.keep (.keep (.keep (.drop (.drop (.drop .nil))))))))))))))))) (fun s56 => (JB.cons (JS.ite (sn := fun s66 : Unit => [.d (eI a.1), .d ((eL (eP (eT eI) eI)) a.2.1), .d ((eL eI) a.2.2.1), .d ((eT eI) a.2.2.2.1), .d ((eT eI) a.2.2.2.2.1), .d ((eL (eL eI)) a.2.2.2.2.2.1), .d ((eL eI) marks17), .no, .no, .no]) (JT.val (JX.call f_law_together (JA.cons (JE.var 6 marks17 rfl) (JA.cons (JE.var 3 a.2.2.2.1 rfl) JA.nil)))) (JB.one (JS.ret (JX.someO (JE.tup2 JE.int JE.str)))) (JB.nil (()) (.keep (.keep (.keep (.keep (.keep (.keep (.keep (.drop (.drop (.drop .nil)))))))))))) (fun s66 => (JB.one (JS.ret (JX.noneO (enc := (eP eI eS)) JE.non)))))))))))

theorem fd_law_joining {T : Tx} (B : Blt T) (f_law_draw : FD_law_draw T) {f : Addr} {fd : FuncData} (Td : TD T.K T.mg "_law_joining" s_law_joining ["pool", "villages", "lines", "census", "chosen"] f fd) : FD_law_joining T :=
  FD.of (β := Empty) (ζ := Unit) (sb := nofun) (sn := fun _ => []) Td sc_law_joining (fun _ => rfl) (by decide) fun a =>
    (JB.cons (JS.set 5 (JX.kn (JL.listR1 B (JE.var 1 a.1 rfl)))) (fun labels3 => (JB.cons (JS.setL 6 JL.nil) (fun row5 => (JB.cons (JS.for (sm := fun s7 : (List Int) × (List Int) × Unit => [.p, .d (eI a.1), .d ((eL (eP (eT eI) eI)) a.2.1), .d ((eL eI) a.2.2.1), .d ((eT eI) a.2.2.2.1), .d ((eL eI) s7.1), .l (s7.2.1.map eI), .no, .no, .no, .no, .no, .no, .no]) (js := [7]) (labels3, row5, ()) (JI.range1 B (JE.var 1 a.1 rfl)) (JG.name 7) (.keep (.keep (.keep (.keep (.keep (.keep (.keep (.drop (.drop (.drop (.drop (.drop (.drop (.drop .nil)))))))))))))) (fun x8 s7 => (JB.cons (JS.setL 8 JL.nil) (fun able10 => (JB.cons (JS.for (sm := fun s11 : (List Int) × Unit => [.p, .d (eI a.1), .d ((eL (eP (eT eI) eI)) a.2.1), .d ((eL eI) a.2.2.1), .d ((eT eI) a.2.2.2.1), .d ((eL eI) s7.1), .l (s7.2.1.map eI), .d (eI x8), .l (s11.1.map eI), .no, .no, .no, .no, .no]) (js := [9]) (able10, ()) (JI.tup (JE.var 4 a.2.2.2.1 rfl)) (JG.name 9) (.keep (.keep (.keep (.keep (.keep (.keep (.keep (.keep (.keep (.drop (.drop (.drop (.drop (.drop .nil)))))))))))))) (fun x12 s11 => (JB.cons (JS.set 10 (JX.kn (JL.sortedSetI B (JX.kn (JC.l (JC.all (vs := [11]) (js := [11]) (JI.tup (JE.ixC (ea := (eP (eT eI) eI)) (eb := (eT eI)) (fun t => t.1) (JE.ixL (JE.var 2 a.2.1 rfl) (JE.var 9 x12 rfl)) (fun _ => ⟨_, rfl, rfl⟩))) (JG.name 11) (fun x16 => (JE.ixL (JE.var 5 s7.1 rfl) (JE.var 11 x16 rfl))))))))) (fun marks22 => (JB.cons (JS.ite (sn := fun s47 : (List Int) × Unit => [.p, .d (eI a.1), .d ((eL (eP (eT eI) eI)) a.2.1), .d ((eL eI) a.2.2.1), .d ((eT eI) a.2.2.2.1), .d ((eL eI) s7.1), .l (s7.2.1.map eI), .d (eI x8), .l (s47.1.map eI), .d (eI x12), .d ((eL eI) marks22), .no, .no, .no]) (JW.t (JW.and (JT.gt (JE.lenL B (JE.var 10 marks22 rfl)) JE.int) (JW.and1 (JT.ge (JE.sum B (JX.kn (JC.l (JC.one (vs := [11]) (js := [11]) (JI.range1 B (JE.var 1 a.1 rfl)) (JG.name 11) (fun x27 => (JT.inL (JE.ixL (JE.var 5 s7.1 rfl) (JE.var 11 x27 rfl)) (JE.var 10 marks22 rfl))) (fun x27 => (JE.ixL (JE.var 3 a.2.2.1 rfl) (JE.var 11 x27 rfl))))))) (JE.ixC (ea := (eP (eT eI) eI)) (eb := eI) (fun t => t.2) (JE.ixL (JE.var 2 a.2.1 rfl) (JE.var 9 x12 rfl)) (fun _ => ⟨_, rfl, rfl⟩)))))) (JB.cons (JS.app 8 (xs := s11.1) rfl (JX.kh (JE.var 9 x12 rfl))) (fun t46 => (JB.nil ((s11.1 ++ [t46]), ()) (.keep (.keep (.keep (.keep (.keep (.keep (.keep (.keep (.keep (.keep (.keep (.drop (.drop (.drop .nil))))))))))))))))) (JB.nil (s11.1, ()) (.keep (.keep (.keep (.keep (.keep (.keep (.keep (.keep (.keep (.keep (.keep (.drop (.drop (.drop .nil)))))))))))))))) (fun s47 => (JB.nil (s47.1, ()) (.keep (.keep (.keep (.keep (.keep (.keep (.keep (.keep (.keep (.drop (.drop (.drop (.drop (.drop .nil))))))))))))))))))))) (fun s49 => (JB.cons (JS.ite (sn := fun s55 : Unit => [.p, .d (eI a.1), .d ((eL (eP (eT eI) eI)) a.2.1), .d ((eL eI) a.2.2.1), .d ((eT eI) a.2.2.2.1), .d ((eL eI) s7.1), .l (s7.2.1.map eI), .d (eI x8), .l (s49.1.map eI), .no, .no, .no, .no, .no]) (JT.eq (JE.lenL B (JE.own 8 s49.1 rfl)) JE.int) (JB.one (JS.retOwn 6 s7.2.1 rfl)) (JB.nil (()) (.keep (.keep (.keep (.keep (.keep (.keep (.keep (.keep (.keep (.drop (.drop (.drop (.drop (.drop .nil)))))))))))))))) (fun s55 => (JB.cons (JS.setF 12 (JE.ixL (JE.own 8 s49.1 rfl) (JX.call f_law_draw (JA.pool (JX.pool 0 rfl) (JA.cons (JE.lenL B (JE.own 8 s49.1 rfl)) JA.nil))))) (fun at62 => (JB.cons (JS.set 10 (JX.kn (JL.sortedSetI B (JX.kn (JC.l (JC.all (vs := [11]) (js := [11]) (JI.tup (JE.ixC (ea := (eP (eT eI) eI)) (eb := (eT eI)) (fun t => t.1) (JE.ixL (JE.var 2 a.2.1 rfl) (JE.var 12 at62 rfl)) (fun _ => ⟨_, rfl, rfl⟩))) (JG.name 11) (fun x66 => (JE.ixL (JE.var 5 s7.1 rfl) (JE.var 11 x66 rfl))))))))) (fun marks72 => (JB.cons (JS.setEc 5 (JX.kn (JC.l (JC.all (vs := [13]) (js := [13]) (JI.list (JE.var 5 s7.1 rfl)) (JG.name 13) (fun x73 => (JE.ite (JT.inL (JE.var 13 x73 rfl) (JE.var 10 marks72 rfl)) (JE.ixL (JE.var 10 marks72 rfl) JE.int) (JE.var 13 x73 rfl))))))) (fun labels81 => (JB.cons (JS.app 6 (xs := s7.2.1) rfl (JX.kh (JE.var 12 at62 rfl))) (fun t83 => (JB.nil (labels81, (s7.2.1 ++ [t83]), ()) (.keep (.keep (.keep (.keep (.keep (.keep (.keep (.drop (.drop (.drop (.drop (.drop (.drop (.drop .nil))))))))))))))))))))))))))))))) (fun s85 => (JB.one (JS.retOwn 6 s85.2.1 rfl))))))))

theorem fd_law_rows {T : Tx} (B : Blt T) (f_law_draw : FD_law_draw T) (f_law_joining : FD_law_joining T) {f : Addr} {fd : FuncData} (Td : TD T.K T.mg "_law_rows" s_law_rows ["pool", "villages", "lines", "census", "chosen"] f fd) : FD_law_rows T :=
  FD.of (β := Empty) (ζ := Unit) (sb := nofun) (sn := fun _ => []) Td sc_law_rows (fun _ => rfl) (by decide) fun a =>
    (JB.cons (JS.set 5 (JX.kn (JX.call f_law_joining (JA.pool (JX.pool 0 rfl) (JA.cons (JE.var 1 a.1 rfl) (JA.cons (JE.var 2 a.2.1 rfl) (JA.cons (JE.var 3 a.2.2.1 rfl) (JA.cons (JE.var 4 a.2.2.2.1 rfl) JA.nil)))))))) (fun row10 => (JB.cons (JS.set 6 (JX.call f_law_draw (JA.pool (JX.pool 0 rfl) (JA.cons (JE.add (JE.lenL B (JE.var 5 row10 rfl)) JE.int) JA.nil)))) (fun at17 => (JB.cons (JS.set 7 (JE.sub (JX.call f_law_draw (JA.pool (JX.pool 0 rfl) (JA.cons (JE.add (JE.mul JE.int (JE.lenL B (JE.var 2 a.2.1 rfl))) JE.int) JA.nil))) (JE.lenL B (JE.var 2 a.2.1 rfl)))) (fun wild29 => (JB.cons (JS.setL 8 (JL.lstD (JD.cons (JE.var 5 row10 rfl) (JD.cons (JX.kn (JL.slice (JE.var 5 row10 rfl) JO.none (JO.some (JE.var 6 at17 rfl)))) (JD.cons (JX.kn (JL.cat (JX.kn (JL.cat (JX.kn (JL.slice (JE.var 5 row10 rfl) JO.none (JO.some (JE.var 6 at17 rfl)))) (JX.kn (JL.lstD (JD.cons (JE.var 7 wild29 rfl) JD.nil))))) (JX.kn (JL.slice (JE.var 5 row10 rfl) (JO.some (JE.var 6 at17 rfl)) JO.none)))) (JD.cons (JX.kn (JL.cat (JX.kn (JL.cat (JX.kn (JL.slice (JE.var 5 row10 rfl) JO.none (JO.some (JE.var 6 at17 rfl)))) (JX.kn (JL.lstD (JD.cons (JE.var 7 wild29 rfl) JD.nil))))) (JX.kn (JL.slice (JE.var 5 row10 rfl) (JO.some (JE.add (JE.var 6 at17 rfl) JE.int)) JO.none)))) (JD.cons (JX.kn (JL.cat (JX.kn (JL.slice (JE.var 5 row10 rfl) JO.none (JO.some (JE.var 6 at17 rfl)))) (JX.kn (JL.slice (JE.var 5 row10 rfl) (JO.some (JE.add (JE.var 6 at17 rfl) JE.int)) JO.none)))) JD.nil))))))) (fun rows90 => (JB.cons (JS.app 8 (xs := rows90) rfl (JX.kh (JX.kn (JC.l (JC.all (vs := [9]) (js := [9]) (JI.range1 B (JE.lenL B (JE.var 5 row10 rfl))) (JG.name 9) (fun x93 => (JE.ixL (JE.var 5 row10 rfl) (JE.sub (JE.sub (JE.lenL B (JE.var 5 row10 rfl)) JE.int) (JE.var 9 x93 rfl))))))))) (fun t103 => (JB.cons (JS.app 8 (xs := (rows90 ++ [t103])) rfl (JX.kh (JX.kn (JL.cat (JE.var 5 row10 rfl) (JX.kn (JL.slice (JE.var 5 row10 rfl) JO.none (JO.some JE.int))))))) (fun t111 => (JB.cons (JS.app 8 (xs := ((rows90 ++ [t103]) ++ [t111])) rfl (JX.kh (JX.kn (JC.l (JC.all (vs := [10]) (js := [10]) (JI.range1 B (JX.call f_law_draw (JA.pool (JX.pool 0 rfl) (JA.cons JE.int JA.nil)))) (JG.name 10) (fun x115 => (JE.sub (JX.call f_law_draw (JA.pool (JX.pool 0 rfl) (JA.cons (JE.add (JE.lenL B (JE.var 2 a.2.1 rfl)) JE.int) JA.nil))) JE.int))))))) (fun t125 => (JB.one (JS.retOwn 8 (((rows90 ++ [t103]) ++ [t111]) ++ [t125]) rfl))))))))))))))))

theorem fd_law_splits {T : Tx} (B : Blt T) (f_law_bent : FD_law_bent T) (f_law_blocks : FD_law_blocks T) (f_law_labels : FD_law_labels T) (f_law_parting : FD_law_parting T) (f_law_some_lines : FD_law_some_lines T) {f : Addr} {fd : FuncData} (Td : TD T.K T.mg "_law_splits" s_law_splits ["pool", "villages", "lines", "census", "chosen"] f fd) : FD_law_splits T :=
  FD.of (β := Empty) (ζ := Unit) (sb := nofun) (sn := fun _ => []) Td sc_law_splits (fun _ => rfl) (by decide) fun a =>
    (JB.cons (JS.set 5 (JX.kn (JX.call f_law_labels (JA.cons (JE.var 1 a.1 rfl) (JA.cons (JX.kn (JX.call f_law_some_lines (JA.cons (JE.var 2 a.2.1 rfl) (JA.cons (JE.var 4 a.2.2.2.1 rfl) JA.nil)))) (JA.cons (JE.var 3 a.2.2.1 rfl) JA.nil)))))) (fun mine12 => (JB.cons (JS.set 6 (JX.kn (JX.call f_law_labels (JA.cons (JE.var 1 a.1 rfl) (JA.cons (JE.var 2 a.2.1 rfl) (JA.cons (JE.var 3 a.2.2.1 rfl) JA.nil)))))) (fun full20 => (JB.cons (JS.setL 7 (JL.lstD (JD.cons (JX.kn (JX.call f_law_blocks (JA.cons (JE.var 5 mine12 rfl) JA.nil))) (JD.cons (JX.kn (JX.call f_law_blocks (JA.cons (JE.var 6 full20 rfl) JA.nil))) JD.nil)))) (fun found31 => (JB.cons (JS.for (sm := fun s37 : (List (List (List Int))) × Unit => [.p, .d (eI a.1), .d ((eL (eP (eT eI) eI)) a.2.1), .d ((eL eI) a.2.2.1), .d ((eT eI) a.2.2.2.1), .d ((eL eI) mine12), .d ((eL eI) full20), .l (s37.1.map (eL (eL eI))), .no, .no]) (js := [8]) (found31, ()) (JI.list (JX.kn (JL.lstD (JD.cons (JE.var 5 mine12 rfl) (JD.cons (JE.var 6 full20 rfl) JD.nil))))) (JG.name 8) (.keep (.keep (.keep (.keep (.keep (.keep (.keep (.keep (.drop (.drop .nil)))))))))) (fun x38 s37 => (JB.cons (JS.set 9 (JX.kn (JX.call f_law_blocks (JA.cons (JX.kn (JX.call f_law_parting (JA.pool (JX.pool 0 rfl) (JA.cons (JE.var 1 a.1 rfl) (JA.cons (JE.var 8 x38 rfl) JA.nil))))) JA.nil)))) (fun blocks46 => (JB.cons (JS.app 7 (xs := s37.1) rfl (JX.kh (JE.var 9 blocks46 rfl))) (fun t48 => (JB.cons (JS.app 7 (xs := (s37.1 ++ [t48])) rfl (JX.kh (JX.kn (JX.call f_law_bent (JA.pool (JX.pool 0 rfl) (JA.cons (JE.var 1 a.1 rfl) (JA.cons (JE.var 9 blocks46 rfl) JA.nil))))))) (fun t54 => (JB.nil (((s37.1 ++ [t48]) ++ [t54]), ()) (.keep (.keep (.keep (.keep (.keep (.keep (.keep (.keep (.drop (.drop .nil))))))))))))))))))) (fun s56 => (JB.one (JS.retOwn 7 s56.1 rfl))))))))))

theorem fd_law_asked {T : Tx} (B : Blt T) (f_law_same : FS T) (f_fault_of_holding : FD_fault_of_holding T) {f : Addr} {fd : FuncData} (Td : TD T.K T.mg "_law_asked" s_law_asked ["land", "people", "party", "chosen", "word", "material", "due"] f fd) : FD_law_asked T :=
  FD.of (β := Empty) (ζ := Unit) (sb := nofun) (sn := fun _ => []) Td sc_law_asked (fun _ => rfl) (by decide) fun
    | (z0, z1, z2, z3, z4, Sum.inl z5, z6, _) => (JB.cons (JS.set 7 (JX.kn (JL.list B (JE.var 1 z1 rfl)))) (fun census3 => (JB.cons (JS.setC 8 (JC.all (vs := [9]) (js := [9]) (JI.list (JE.var (enc := (eL eI)) 5 z5 rfl)) (JG.name 9) (fun x4 => (JE.ite (JT.val (JE.isi (Tn := "list") B false (JE.var 9 x4 rfl) B.list (by decide +kernel) (fun _ => rfl))) (JX.deadE (enc := fun t => .d (eI t))) (JE.var 9 x4 rfl))))) (fun handed9 => (JB.frz 8 rfl (JB.cons (JS.set 10 (JX.call f_fault_of_holding (JA.ins (er := eReg) (JX.varI (er := eReg) 0 z0 rfl) (JA.cons (JE.var 1 z1 rfl) (JA.cons (JE.var 2 z2 rfl) (JA.cons (JE.var 3 z3 rfl) (JA.cons (JE.tup2 (JE.var 4 z4 rfl) (JX.inl (ea := (eL eI)) (eb := (eL (eL eI))) (JE.var 8 handed9 rfl))) JA.nil))))))) (fun got24 => (JB.one (JS.ret (JE.and (JX.call (f_law_same (eO (eP eI eS)) 1) (JA.cons (JE.var 10 got24 rfl) (JA.cons (JE.var 6 z6 rfl) JA.nil))) (JE.and (JE.eq (JE.var 1 z1 rfl) (JE.var 7 census3 rfl)) (JE.one (JE.eq (JE.var 8 handed9 rfl) (JE.var (enc := (eL eI)) 5 z5 rfl))))))))))))))
    | (z0, z1, z2, z3, z4, Sum.inr z5, z6, _) => (JB.cons (JS.set 7 (JX.kn (JL.list B (JE.var 1 z1 rfl)))) (fun census3 => (JB.cons (JS.setC 8 (JC.all (vs := [9]) (js := [9]) (JI.list (JE.var (enc := (eL (eL eI))) 5 z5 rfl)) (JG.name 9) (fun x4 => (JE.ite (JT.val (JE.isi (Tn := "list") B true (JE.var 9 x4 rfl) B.list (by decide +kernel) (fun _ => rfl))) (JX.kn (JL.list B (JE.var 9 x4 rfl))) (JX.deadE (enc := fun t => .d ((eL eI) t))))))) (fun handed10 => (JB.frz 8 rfl (JB.cons (JS.set 10 (JX.call f_fault_of_holding (JA.ins (er := eReg) (JX.varI (er := eReg) 0 z0 rfl) (JA.cons (JE.var 1 z1 rfl) (JA.cons (JE.var 2 z2 rfl) (JA.cons (JE.var 3 z3 rfl) (JA.cons (JE.tup2 (JE.var 4 z4 rfl) (JX.inr (ea := (eL eI)) (eb := (eL (eL eI))) (JE.var 8 handed10 rfl))) JA.nil))))))) (fun got25 => (JB.one (JS.ret (JE.and (JX.call (f_law_same (eO (eP eI eS)) 1) (JA.cons (JE.var 10 got25 rfl) (JA.cons (JE.var 6 z6 rfl) JA.nil))) (JE.and (JE.eq (JE.var 1 z1 rfl) (JE.var 7 census3 rfl)) (JE.one (JE.eq (JE.var 8 handed10 rfl) (JE.var (enc := (eL (eL eI))) 5 z5 rfl))))))))))))))

theorem jb_law {T : Tx} (B : Blt T) (f_Region : FI_Region T) (f_law_asked : FD_law_asked T) (f_law_county : FD_law_county T) (f_law_draw : FD_law_draw T) (f_law_row_fault : FD_law_row_fault T) (f_law_rows : FD_law_rows T) (f_law_split_fault : FD_law_split_fault T) (f_law_splits : FD_law_splits T) : JB T (Fr.def n_law s_law 7) ((defBody s_law).drop 1) (lawS n_law) (fun r : Bool => .d (eB r)) (nofun : Empty → List Sl) (fun _ : Unit => []) m_law :=
    (JB.cons (JS.unp (js := [2, 3, 4, 5]) (JX.kh (JX.call f_law_county (JA.pool (JX.pool 1 rfl) (JA.cons JE.int JA.nil)))) (JG.four (JG.name 2) (JG.name 3) (JG.name 4) (JG.name 5))) (fun t3 => (JB.cons (JS.setI (er := eReg) 6 (JX.make f_Region (JA.cons (JE.var 2 t3.1 rfl) (JA.cons (JX.kn (JL.list B (JE.var 3 t3.2.1 rfl))) JA.nil)))) (fun land11 => (JB.cons (JS.setL 7 (JL.lstD (JD.cons (JE.tupR1 B (JE.lenL B (JE.var 3 t3.2.1 rfl))) (JD.cons JE.tup0 JD.nil)))) (fun chosen20 => (JB.cons (JS.for (sm := fun s22 : (List (List Int)) × Unit => [.no, .p, .d (eI t3.1), .d ((eL (eP (eT eI) eI)) t3.2.1), .d ((eL eI) t3.2.2.1), .d ((eT eI) t3.2.2.2), .q (KIns T "Region" (eReg land11)), .l (s22.1.map (eT eI)), .no, .no, .no, .no, .no, .no, .no, .no]) (js := [8]) (chosen20, ()) (JI.range1 B JE.int) (JG.name 8) (.drop (.keep (.keep (.keep (.keep (.keep (.keep (.keep (.drop (.drop (.drop (.drop (.drop (.drop (.drop (.drop .nil)))))))))))))))) (fun x23 s22 => (JB.cons (JS.app 7 (xs := s22.1) rfl (JX.kh (JE.tuple B (JX.kn (JC.l (JC.one (vs := [9]) (js := [9]) (JI.range1 B (JE.lenL B (JE.var 3 t3.2.1 rfl))) (JG.name 9) (fun x26 => (JT.gt (JX.call f_law_draw (JA.pool (JX.pool 1 rfl) (JA.cons JE.int JA.nil))) JE.int)) (fun x26 => (JE.var 9 x26 rfl)))))))) (fun t34 => (JB.nil ((s22.1 ++ [t34]), ()) (.drop (.keep (.keep (.keep (.keep (.keep (.keep (.keep (.drop (.drop (.drop (.drop (.drop (.drop (.drop (.drop .nil))))))))))))))))))))) (fun s36 => (JB.cons (JS.set 10 (JX.kn (JL.list B (JE.var 4 t3.2.2.1 rfl)))) (fun people39 => (JB.cons (JS.setL 11 JL.nil) (fun dues41 => (JB.frz 7 rfl (JB.cons (JS.for (sm := fun s42 : (List ((List Int) × Str × ((List Int) ⊕ (List (List Int))) × (Option (Int × Str)))) × Unit => [.no, .p, .d (eI t3.1), .d ((eL (eP (eT eI) eI)) t3.2.1), .d ((eL eI) t3.2.2.1), .d ((eT eI) t3.2.2.2), .q (KIns T "Region" (eReg land11)), .d ((eL (eT eI)) s36.1), .no, .no, .d ((eL eI) people39), .l (s42.1.map (eP4 (eT eI) eS (eSum (eL eI) (eL (eL eI))) (eO (eP eI eS)))), .no, .no, .no, .no]) (js := [12]) (dues41, ()) (JI.list (JE.var 7 s36.1 rfl)) (JG.name 12) (.drop (.keep (.keep (.keep (.keep (.keep (.keep (.keep (.drop (.drop (.keep (.keep (.drop (.drop (.drop (.drop .nil)))))))))))))))) (fun x43 s42 => (JB.cons (JS.for (sm := fun s52 : (List ((List Int) × Str × ((List Int) ⊕ (List (List Int))) × (Option (Int × Str)))) × Unit => [.no, .p, .d (eI t3.1), .d ((eL (eP (eT eI) eI)) t3.2.1), .d ((eL eI) t3.2.2.1), .d ((eT eI) t3.2.2.2), .q (KIns T "Region" (eReg land11)), .d ((eL (eT eI)) s36.1), .no, .no, .d ((eL eI) people39), .l (s52.1.map (eP4 (eT eI) eS (eSum (eL eI) (eL (eL eI))) (eO (eP eI eS)))), .d ((eT eI) x43), .no, .no, .no]) (js := [13]) (s42.1, ()) (JI.list (JX.kn (JX.call f_law_rows (JA.pool (JX.pool 1 rfl) (JA.cons (JE.var 2 t3.1 rfl) (JA.cons (JE.var 3 t3.2.1 rfl) (JA.cons (JE.var 4 t3.2.2.1 rfl) (JA.cons (JE.var 12 x43 rfl) JA.nil)))))))) (JG.name 13) (.drop (.keep (.keep (.keep (.keep (.keep (.keep (.keep (.drop (.drop (.keep (.keep (.keep (.drop (.drop (.drop .nil)))))))))))))))) (fun x53 s52 => (JB.cons (JS.app 11 (xs := s52.1) rfl (JX.kh (JE.tup4 (JE.var 12 x43 rfl) JE.str (JX.inl (ea := (eL eI)) (eb := (eL (eL eI))) (JE.var 13 x53 rfl)) (JX.call f_law_row_fault (JA.cons (JE.var 2 t3.1 rfl) (JA.cons (JE.var 3 t3.2.1 rfl) (JA.cons (JE.var 4 t3.2.2.1 rfl) (JA.cons (JE.var 5 t3.2.2.2 rfl) (JA.cons (JE.var 12 x43 rfl) (JA.cons (JE.var 13 x53 rfl) JA.nil)))))))))) (fun t72 => (JB.nil ((s52.1 ++ [t72]), ()) (.drop (.keep (.keep (.keep (.keep (.keep (.keep (.keep (.drop (.drop (.keep (.keep (.keep (.drop (.drop (.drop .nil))))))))))))))))))))) (fun s74 => (JB.cons (JS.for (sm := fun s83 : (List ((List Int) × Str × ((List Int) ⊕ (List (List Int))) × (Option (Int × Str)))) × Unit => [.no, .p, .d (eI t3.1), .d ((eL (eP (eT eI) eI)) t3.2.1), .d ((eL eI) t3.2.2.1), .d ((eT eI) t3.2.2.2), .q (KIns T "Region" (eReg land11)), .d ((eL (eT eI)) s36.1), .no, .no, .d ((eL eI) people39), .l (s83.1.map (eP4 (eT eI) eS (eSum (eL eI) (eL (eL eI))) (eO (eP eI eS)))), .d ((eT eI) x43), .no, .no, .no]) (js := [14]) (s74.1, ()) (JI.list (JX.kn (JX.call f_law_splits (JA.pool (JX.pool 1 rfl) (JA.cons (JE.var 2 t3.1 rfl) (JA.cons (JE.var 3 t3.2.1 rfl) (JA.cons (JE.var 4 t3.2.2.1 rfl) (JA.cons (JE.var 12 x43 rfl) JA.nil)))))))) (JG.name 14) (.drop (.keep (.keep (.keep (.keep (.keep (.keep (.keep (.drop (.drop (.keep (.keep (.keep (.drop (.drop (.drop .nil)))))))))))))))) (fun x84 s83 => (JB.cons (JS.app 11 (xs := s83.1) rfl (JX.kh (JE.tup4 (JE.var 12 x43 rfl) JE.str (JX.inr (ea := (eL eI)) (eb := (eL (eL eI))) (JE.var 14 x84 rfl)) (JX.call f_law_split_fault (JA.cons (JE.var 2 t3.1 rfl) (JA.cons (JE.var 3 t3.2.1 rfl) (JA.cons (JE.var 4 t3.2.2.1 rfl) (JA.cons (JE.var 5 t3.2.2.2 rfl) (JA.cons (JE.var 12 x43 rfl) (JA.cons (JE.var 14 x84 rfl) JA.nil)))))))))) (fun t103 => (JB.nil ((s83.1 ++ [t103]), ()) (.drop (.keep (.keep (.keep (.keep (.keep (.keep (.keep (.drop (.drop (.keep (.keep (.keep (.drop (.drop (.drop .nil))))))))))))))))))))) (fun s105 => (JB.nil (s105.1, ()) (.drop (.keep (.keep (.keep (.keep (.keep (.keep (.keep (.drop (.drop (.keep (.keep (.drop (.drop (.drop (.drop .nil))))))))))))))))))))))) (fun s107 => (JB.frz 11 rfl (JB.cons (JS.for (sm := fun s108 : Unit => [.no, .p, .d (eI t3.1), .d ((eL (eP (eT eI) eI)) t3.2.1), .d ((eL eI) t3.2.2.1), .d ((eT eI) t3.2.2.2), .q (KIns T "Region" (eReg land11)), .d ((eL (eT eI)) s36.1), .no, .no, .d ((eL eI) people39), .d ((eL (eP4 (eT eI) eS (eSum (eL eI) (eL (eL eI))) (eO (eP eI eS)))) s107.1), .no, .no, .no, .no]) (js := [15]) (()) (JI.list (JE.var 11 s107.1 rfl)) (JG.name 15) (.drop (.keep (.keep (.keep (.keep (.keep (.keep (.keep (.drop (.drop (.keep (.keep (.drop (.drop (.drop (.drop .nil)))))))))))))))) (fun x109 s108 => (JB.cons (JS.ite (sn := fun s131 : Unit => [.no, .p, .d (eI t3.1), .d ((eL (eP (eT eI) eI)) t3.2.1), .d ((eL eI) t3.2.2.1), .d ((eT eI) t3.2.2.2), .q (KIns T "Region" (eReg land11)), .d ((eL (eT eI)) s36.1), .no, .no, .d ((eL eI) people39), .d ((eL (eP4 (eT eI) eS (eSum (eL eI) (eL (eL eI))) (eO (eP eI eS)))) s107.1), .no, .no, .no, .d ((eP4 (eT eI) eS (eSum (eL eI) (eL (eL eI))) (eO (eP eI eS))) x109)]) (JT.not (JT.val (JX.call f_law_asked (JA.ins (er := eReg) (JX.varI (er := eReg) 6 land11 rfl) (JA.cons (JE.var 10 people39 rfl) (JA.cons (JE.var 5 t3.2.2.2 rfl) (JA.cons (JE.ixC (ea := (eP4 (eT eI) eS (eSum (eL eI) (eL (eL eI))) (eO (eP eI eS)))) (eb := (eT eI)) (fun t => t.1) (JE.var 15 x109 rfl) (fun _ => ⟨_, rfl, rfl⟩)) (JA.cons (JE.ixC (ea := (eP4 (eT eI) eS (eSum (eL eI) (eL (eL eI))) (eO (eP eI eS)))) (eb := eS) (fun t => t.2.1) (JE.var 15 x109 rfl) (fun _ => ⟨_, rfl, rfl⟩)) (JA.cons (JE.ixC (ea := (eP4 (eT eI) eS (eSum (eL eI) (eL (eL eI))) (eO (eP eI eS)))) (eb := (eSum (eL eI) (eL (eL eI)))) (fun t => t.2.2.1) (JE.var 15 x109 rfl) (fun _ => ⟨_, rfl, rfl⟩)) (JA.cons (JE.ixC (ea := (eP4 (eT eI) eS (eSum (eL eI) (eL (eL eI))) (eO (eP eI eS)))) (eb := (eO (eP eI eS))) (fun t => t.2.2.2) (JE.var 15 x109 rfl) (fun _ => ⟨_, rfl, rfl⟩)) JA.nil)))))))))) (JB.one (JS.ret JE.bl)) (JB.nil (()) (.drop (.keep (.keep (.keep (.keep (.keep (.keep (.keep (.drop (.drop (.keep (.keep (.drop (.drop (.drop (.keep .nil)))))))))))))))))) (fun s131 => (JB.nil (()) (.drop (.keep (.keep (.keep (.keep (.keep (.keep (.keep (.drop (.drop (.keep (.keep (.drop (.drop (.drop (.drop .nil))))))))))))))))))))) (fun s133 => (JB.cons (JS.for (sm := fun s136 : Unit => [.no, .p, .d (eI t3.1), .d ((eL (eP (eT eI) eI)) t3.2.1), .d ((eL eI) t3.2.2.1), .d ((eT eI) t3.2.2.2), .q (KIns T "Region" (eReg land11)), .d ((eL (eT eI)) s36.1), .no, .no, .d ((eL eI) people39), .d ((eL (eP4 (eT eI) eS (eSum (eL eI) (eL (eL eI))) (eO (eP eI eS)))) s107.1), .no, .no, .no, .no]) (js := [9]) (()) (JI.range1 B (JE.lenL B (JE.var 11 s107.1 rfl))) (JG.name 9) (.drop (.keep (.keep (.keep (.keep (.keep (.keep (.keep (.drop (.drop (.keep (.keep (.drop (.drop (.drop (.drop .nil)))))))))))))))) (fun x137 s136 => (JB.cons (JS.set 15 (JE.ixL (JE.var 11 s107.1 rfl) (JE.sub (JE.sub (JE.lenL B (JE.var 11 s107.1 rfl)) JE.int) (JE.var 9 x137 rfl)))) (fun due146 => (JB.cons (JS.ite (sn := fun s168 : Unit => [.no, .p, .d (eI t3.1), .d ((eL (eP (eT eI) eI)) t3.2.1), .d ((eL eI) t3.2.2.1), .d ((eT eI) t3.2.2.2), .q (KIns T "Region" (eReg land11)), .d ((eL (eT eI)) s36.1), .no, .d (eI x137), .d ((eL eI) people39), .d ((eL (eP4 (eT eI) eS (eSum (eL eI) (eL (eL eI))) (eO (eP eI eS)))) s107.1), .no, .no, .no, .d ((eP4 (eT eI) eS (eSum (eL eI) (eL (eL eI))) (eO (eP eI eS))) due146)]) (JT.not (JT.val (JX.call f_law_asked (JA.ins (er := eReg) (JX.varI (er := eReg) 6 land11 rfl) (JA.cons (JE.var 10 people39 rfl) (JA.cons (JE.var 5 t3.2.2.2 rfl) (JA.cons (JE.ixC (ea := (eP4 (eT eI) eS (eSum (eL eI) (eL (eL eI))) (eO (eP eI eS)))) (eb := (eT eI)) (fun t => t.1) (JE.var 15 due146 rfl) (fun _ => ⟨_, rfl, rfl⟩)) (JA.cons (JE.ixC (ea := (eP4 (eT eI) eS (eSum (eL eI) (eL (eL eI))) (eO (eP eI eS)))) (eb := eS) (fun t => t.2.1) (JE.var 15 due146 rfl) (fun _ => ⟨_, rfl, rfl⟩)) (JA.cons (JE.ixC (ea := (eP4 (eT eI) eS (eSum (eL eI) (eL (eL eI))) (eO (eP eI eS)))) (eb := (eSum (eL eI) (eL (eL eI)))) (fun t => t.2.2.1) (JE.var 15 due146 rfl) (fun _ => ⟨_, rfl, rfl⟩)) (JA.cons (JE.ixC (ea := (eP4 (eT eI) eS (eSum (eL eI) (eL (eL eI))) (eO (eP eI eS)))) (eb := (eO (eP eI eS))) (fun t => t.2.2.2) (JE.var 15 due146 rfl) (fun _ => ⟨_, rfl, rfl⟩)) JA.nil)))))))))) (JB.one (JS.ret JE.bl)) (JB.nil (()) (.drop (.keep (.keep (.keep (.keep (.keep (.keep (.keep (.drop (.keep (.keep (.keep (.drop (.drop (.drop (.keep .nil)))))))))))))))))) (fun s168 => (JB.nil (()) (.drop (.keep (.keep (.keep (.keep (.keep (.keep (.keep (.drop (.drop (.keep (.keep (.drop (.drop (.drop (.drop .nil))))))))))))))))))))))) (fun s170 => (JB.one (JS.ret JE.bl))))))))))))))))))))))

end DW
namespace DW
open PySem PySem.Spec PyProof.Rows L2 PL
/-! what the top has of an exception class with an own __init__ -/
def oexB (K : PySem.W.Frag) (C : Addr) : Bool := match K.lookup C with
  | some ⟨cl, _, .cls cd, slts⟩ => decide (cl = .type "type") && (decide (cd.mro = .ref C :: cd.mro.tail) && (PySem.HandSPX.refsVE cd.mro.tail && (decide (cd.hasDict = true) && (decide (cd.hasDel = false) && decide (slts = #[slts.getD 0 none, slts.getD 1 none, slts.getD 2 none, slts.getD 3 none, some (.builtin "ValueError.__new__"), slts.getD 5 none])))))
  | _ => false
theorem oexB_ok {K : PySem.W.Frag} {C : Addr} (h : oexB K C = true) : ∃ nm q N bs bm sn sub ab col dd k0 k1 k2 k3 k5, K.lookup C = some (excClassObj nm q C N bs bm true sn sub ab col dd k0 k1 k2 k3 k5 "ValueError.__new__") ∧ PySem.HandSPX.refsVE bm = true := by
  unfold oexB at h
  split at h
  · rename_i cl dd cd slts e
    obtain ⟨h1, h⟩ := He.ba h
    obtain ⟨h2, h⟩ := He.ba h
    obtain ⟨h3, h⟩ := He.ba h
    obtain ⟨h4, h⟩ := He.ba h
    obtain ⟨h5, h6⟩ := He.ba h
    replace h1 := of_decide_eq_true h1
    replace h2 := of_decide_eq_true h2
    replace h4 := of_decide_eq_true h4
    replace h5 := of_decide_eq_true h5
    replace h6 := of_decide_eq_true h6
    obtain ⟨nm, bs, mro, nsp, qn, hd, sn, sub, ab, col, hdel⟩ := cd
    dsimp only at h2 h3 h4 h5
    subst h1
    subst h4
    subst h5
    refine ⟨nm, qn, nsp, bs, mro.tail, sn, sub, ab, col, dd, slts.getD 0 none, slts.getD 1 none, slts.getD 2 none, slts.getD 3 none, slts.getD 5 none, ?_, h3⟩
    rw [e]
    congr 1
    show Obj.mk _ _ _ _ = Obj.mk _ _ _ _
    rw [← h2, ← h6]
  · cases h
def exB (K : PySem.W.Frag) (x : Str) : Bool := oexB K (He.ga K x) && (He.eqO (PySem.W.findIn K (.ref (He.ga K x)) "__setattr__") (some (some (.builtin "object.__setattr__"))) && (decide (PySem.W.subIn K (.ref (He.ga K x)) (.type "BaseException") = some true) && (decide (PySem.W.typeIn K (.ref (He.ga K x)) = some (.type "type")) && (PySem.W.keepIn K (.ref (He.ga K x)) &&
  (He.eqO (PySem.W.findIn K (.ref (He.ga K x)) "__init__") (some (some (.ref (He.ma K (He.ga K x) "__init__")))) && (decide (PySem.W.typeIn K (.ref (He.ma K (He.ga K x) "__init__")) = some (.type "function")) && (He.eqO (PySem.W.findIn K (.ref (He.ga K x)) "why") (some none) && decide (PySem.W.exmOne K (.ref (He.ga K x)) (.ref (He.ga K x)) = some true))))))))
theorem bd_of {P : Program} {w : World} {K : PySem.W.Frag} {mg : Str → Option Value} {base : Heap} {mt : MS} {fd : FuncData} (h : exB K "BadDivision" = true) (g : mg "BadDivision" = some (.ref (He.ga K "BadDivision"))) (F : FunD K "__init__" "BadDivision.__init__" (defArgs s_BadDivision_init) (defBody s_BadDivision_init) (defScope s_BadDivision_init) [] [] (He.ma K (He.ga K "BadDivision") "__init__") fd) (b : Binds K fd ["self", "why"] []) : BdF ⟨P, w, K, mg, base, mt⟩ := by
  obtain ⟨h1, h⟩ := He.ba h
  obtain ⟨h2, h⟩ := He.ba h
  obtain ⟨h3, h⟩ := He.ba h
  obtain ⟨h4, h⟩ := He.ba h
  obtain ⟨h5, h⟩ := He.ba h
  obtain ⟨h6, h⟩ := He.ba h
  obtain ⟨h7, h⟩ := He.ba h
  obtain ⟨h8, h9⟩ := He.ba h
  have O : OexC K (He.ga K "BadDivision") := ⟨oexB_ok h1, He.eqO_ok h2, of_decide_eq_true h3, of_decide_eq_true h4, h5⟩
  exact ⟨_, _, fd, g, O, He.eqO_ok h6, of_decide_eq_true h7, He.eqO_ok h8, of_decide_eq_true h9, ok_bad (T := ⟨P, w, K, mg, base, mt⟩) (He5.fun_of F) O (He.eqO_ok h8), b⟩
end DW
namespace DW
open PySem L2 PL
/-! what a mirror can come to -/
section
variable {α β γ ρ σ τ : Type}
def Ev (w : W α) (R : α → Prop) : Prop := ∀ P : α → Prop, (∀ v, R v → P v) → w P
theorem Ev.run {w : W α} {R : α → Prop} (h : Ev w R) : w R := h R fun _ h => h
theorem Ev.imp {w : W α} {R R' : α → Prop} (h : Ev w R) (i : ∀ v, R v → R' v) : Ev w R' := fun P k => h P fun v r => k v (i v r)
theorem Ev.pure {a : α} {R : α → Prop} (h : R a) : Ev (Pure.pure a) R := fun P k => k a h
theorem Ev.bind {w : W α} {f : α → W β} {R1 : α → Prop} {R : β → Prop} (h : Ev w R1) (k : ∀ v, R1 v → Ev (f v) R) : Ev (w >>= f) R := fun P q => h _ fun v r => k v r P q
theorem Ev.det {w : W α} {f : α → W β} {v : α} {R : β → Prop} (h : Ev w (· = v)) (k : Ev (f v) R) : Ev (w >>= f) R := h.bind fun _ e => e ▸ k
theorem Ev.gd {c : Prop} {f : Unit → W β} {R : β → Prop} (h : c) (k : Ev (f ()) R) : Ev (DW.gd c >>= f) R := fun P q => ⟨h, k P q⟩
theorem Ev.gd0 {c : Prop} {R : Unit → Prop} (h : c) (k : R ()) : Ev (DW.gd c) R := fun P q => ⟨h, q _ k⟩
theorem Ev.ite {c : Prop} [Decidable c] {a b : W α} {R : α → Prop} (h1 : c → Ev a R) (h2 : ¬c → Ev b R) : Ev (if c then a else b) R := by
  split
  · exact h1 ‹_›
  · exact h2 ‹_›
theorem Ev.draw {n : Int} {R : Int → Prop} (h0 : 0 < n) (h1 : n < 18446744073709551616) (k : ∀ r, 0 ≤ r → r < n → R r) : Ev (m_law_draw (n, ())) R := fun P q => ⟨⟨h0, h1⟩, fun r a b => q r (k r a b)⟩
theorem Ev.get {xs : List α} {i : Int} {x : α} (h : atI xs i = some x) : Ev (getW xs i) (· = x) := fun P q => ⟨x, h, q x rfl⟩
theorem atI_nat {xs : List α} {i : Nat} {x : α} (h : xs[i]? = some x) : atI xs (i : Int) = some x := by
  obtain ⟨hi, e⟩ := List.getElem?_eq_some_iff.mp h
  unfold atI ixN
  rw [if_pos (by omega), if_pos (by omega)]
  simp [hi, e]
theorem Ev.getN {xs : List α} {i : Int} {R : α → Prop} (h0 : 0 ≤ i) (h1 : i < xs.length) (k : ∀ x ∈ xs, R x) : Ev (getW xs i) R := by
  have hi : i.toNat < xs.length := by omega
  have := atI_nat (xs := xs) (i := i.toNat) (x := xs[i.toNat]) (List.getElem?_eq_getElem hi)
  rw [Int.toNat_of_nonneg h0] at this
  exact (Ev.get this).imp fun v e => e ▸ k _ (List.getElem_mem hi)
/-- a comprehension, each item known -/
theorem Ev.cmp {xs : List α} {c : α → W Bool} {f : α → W β} {pc : α → Bool} {pf : α → β} (hc : ∀ x ∈ xs, Ev (c x) (· = pc x)) (hf : ∀ x ∈ xs, pc x = true → Ev (f x) (· = pf x)) : Ev (cmpW xs c f) (· = (xs.filter pc).map pf) := by
  induction xs with
  | nil => exact Ev.pure rfl
  | cons x xs ih =>
    have ih := ih (fun y hy => hc y (List.mem_cons_of_mem _ hy)) fun y hy => hf y (List.mem_cons_of_mem _ hy)
    refine Ev.det (hc x List.mem_cons_self) ?_
    by_cases h : pc x = true
    · rw [if_pos h, List.filter_cons_of_pos h, List.map_cons]
      exact Ev.det (hf x List.mem_cons_self h) (Ev.det ih (Ev.pure rfl))
    · rw [if_neg h, List.filter_cons_of_neg h]
      exact ih
theorem Ev.cmp1 {xs : List α} {f : α → W β} {pf : α → β} (hf : ∀ x ∈ xs, Ev (f x) (· = pf x)) : Ev (cmpW xs (fun _ => Pure.pure true) f) (· = xs.map pf) := by
  have := Ev.cmp (xs := xs) (c := fun _ => Pure.pure true) (f := f) (pc := fun _ => true) (pf := pf) (fun _ _ => Ev.pure rfl) fun x hx _ => hf x hx
  rwa [List.filter_eq_self.mpr (fun _ _ => rfl)] at this
/-- of what is drawn: an invariant of what was gathered -/
theorem Ev.cmpI {xs : List α} {c : α → W Bool} {f : α → W β} {I : List β → Prop} (nil : I []) (h : ∀ x ∈ xs, Ev (c x) fun b => b = true → Ev (f x) fun y => ∀ l, I l → I (y :: l)) (skip : True) : Ev (cmpW xs c f) I := by
  induction xs with
  | nil => exact Ev.pure nil
  | cons x xs ih =>
    have ih := ih fun y hy => h y (List.mem_cons_of_mem _ hy)
    refine (h x List.mem_cons_self).bind fun b hb => ?_
    cases b with
    | false => exact ih
    | true => exact (hb rfl).bind fun y hy => ih.bind fun l hl => Ev.pure (hy l hl)
/-- of two clauses -/
theorem Ev.cmpA {xs : List α} {c : α → W Bool} {f : α → W β} {pc : α → Bool} {pf : α → β} {acc : List β} (hc : ∀ x ∈ xs, Ev (c x) (· = pc x)) (hf : ∀ x ∈ xs, pc x = true → Ev (f x) (· = pf x)) (hl : acc.length + xs.length ≤ 100000) : Ev (DW.cmpA xs c f acc) (· = acc ++ (xs.filter pc).map pf) := by
  induction xs generalizing acc with
  | nil => exact Ev.pure (by simp)
  | cons x xs ih =>
    have ih := fun acc => ih (acc := acc) (fun y hy => hc y (List.mem_cons_of_mem _ hy)) fun y hy => hf y (List.mem_cons_of_mem _ hy)
    rw [List.length_cons] at hl
    refine Ev.det (hc x List.mem_cons_self) ?_
    by_cases h : pc x = true
    · rw [if_pos h, List.filter_cons_of_pos h, List.map_cons]
      refine Ev.det (hf x List.mem_cons_self h) (Ev.gd (by omega) ((ih (acc ++ [pf x]) (by rw [List.length_append, List.length_singleton]; omega)).imp fun v e => by rw [e]; simp))
    · rw [if_neg h, List.filter_cons_of_neg h]
      exact ih acc (by omega)
theorem Ev.cmp2 {xs : List α} {g : α → W (List β)} {c1 : α → β → W Bool} {f : α → β → W γ} {pg : α → List β} {pc : α → β → Bool} {pf : α → β → γ} {acc : List γ} (hg : ∀ x ∈ xs, Ev (g x) (· = pg x)) (hc : ∀ x ∈ xs, ∀ y ∈ pg x, Ev (c1 x y) (· = pc x y)) (hf : ∀ x ∈ xs, ∀ y ∈ pg x, pc x y = true → Ev (f x y) (· = pf x y)) (n : Nat) (hn : ∀ x ∈ xs, (pg x).length ≤ n) (hl : acc.length + xs.length * n ≤ 100000) :
    Ev (cmp2A xs (fun _ => Pure.pure true) g c1 f acc) (· = acc ++ xs.flatMap fun x => ((pg x).filter (pc x)).map (pf x)) := by
  induction xs generalizing acc with
  | nil => exact Ev.pure (by simp)
  | cons x xs ih =>
    have ih := fun acc => ih (acc := acc) (fun y hy => hg y (List.mem_cons_of_mem _ hy)) (fun y hy => hc y (List.mem_cons_of_mem _ hy)) (fun y hy => hf y (List.mem_cons_of_mem _ hy)) (fun y hy => hn y (List.mem_cons_of_mem _ hy))
    rw [List.length_cons, Nat.add_mul, Nat.one_mul] at hl
    have h1 := hn x List.mem_cons_self
    refine Ev.det (Ev.pure rfl) ?_
    rw [if_pos rfl]
    refine Ev.det (hg x List.mem_cons_self) (Ev.det (Ev.cmpA (hc x List.mem_cons_self) (hf x List.mem_cons_self) (by omega)) ((ih _ ?_).imp fun v e => by rw [e, List.flatMap_cons, List.append_assoc]))
    have := List.length_filter_le (pc x) (pg x)
    rw [List.length_append, List.length_map]; omega
/-- a loop, by what holds after each item -/
theorem Ev.for_ {xs : List α} {s : σ} {f : α → σ → W (Fl ρ σ σ)} {R : Fl ρ β σ → Prop} (I : List α → σ → Prop) (h0 : I [] s)
    (h : ∀ pre x post s, xs = pre ++ x :: post → I pre s → Ev (f x s) fun | .nx s' => I (pre ++ [x]) s' | .ct s' => I (pre ++ [x]) s' | .bk s' => R (.nx s') | .rt r => R (.rt r)) (h1 : ∀ s, I xs s → R (.nx s)) : Ev (forW xs s f : W (Fl ρ β σ)) R := by
  suffices h2 : ∀ post pre s, xs = pre ++ post → I pre s → Ev (forW post s f : W (Fl ρ β σ)) R from h2 xs [] s rfl h0
  intro post
  induction post with
  | nil => intro pre s e i; rw [List.append_nil] at e; subst e; exact Ev.pure (h1 s i)
  | cons x post ih =>
    intro pre s e i
    refine (h pre x post s e i).bind fun v hv => ?_
    cases v with
    | nx s' => exact ih (pre ++ [x]) s' (by simp [e]) hv
    | ct s' => exact ih (pre ++ [x]) s' (by simp [e]) hv
    | bk s' => exact Ev.pure hv
    | rt r => exact Ev.pure hv
/-- statements behind -/
theorem Ev.rt {r : ρ} {R : ρ → Prop} (h : R r) : Ev (runW (Pure.pure (.rt r) : W (Fl ρ β σ))) R := fun P q => q r h
theorem Ev.seq {w : W (Fl ρ β σ)} {k : σ → W (Fl ρ β τ)} {R : ρ → Prop} (h : Ev w fun | .nx s => Ev (runW (k s)) R | .rt r => R r | _ => False) : Ev (runW (seqW w k)) R := by
  unfold seqW
  rw [runW_bind]
  refine h.bind fun v hv => ?_
  cases v with
  | nx s => exact hv
  | rt r => exact Ev.rt hv
  | bk b => exact hv.elim
  | ct b => exact hv.elim
theorem Ev.seqS {w : W (Fl ρ β σ)} {k : σ → W (Fl ρ β τ)} {R : Fl ρ β τ → Prop} (h : Ev w fun | .nx s => Ev (k s) R | .rt r => R (.rt r) | .bk b => R (.bk b) | .ct b => R (.ct b)) : Ev (seqW w k) R := by
  unfold seqW
  refine h.bind fun v hv => ?_
  cases v with
  | nx s => exact hv
  | rt r => exact Ev.pure hv
  | bk b => exact Ev.pure hv
  | ct b => exact Ev.pure hv
/-- a loop of a body, the rest behind it -/
theorem Ev.forS {xs : List α} {s : σ} {f : α → σ → W (Fl ρ σ σ)} {k : σ → W (Fl ρ β τ)} {R : ρ → Prop} (I : List α → σ → Prop) (h0 : I [] s)
    (h : ∀ pre x post s, xs = pre ++ x :: post → I pre s → Ev (f x s) fun | .nx s' => I (pre ++ [x]) s' | .ct s' => I (pre ++ [x]) s' | .bk s' => Ev (runW (k s')) R | .rt r => R r) (h1 : ∀ s, I xs s → Ev (runW (k s)) R) : Ev (runW (seqW (forW xs s f : W (Fl ρ β σ)) k)) R :=
  Ev.seq (Ev.for_ I h0 (fun pre x post s e i => (h pre x post s e i).imp fun v hv => by cases v <;> exact hv) fun s i => h1 s i)
end
theorem Plain.T {α : Type} {e : α → PyData} {n : Nat} {l : List α} (hl : l.length < 100000) (h : ∀ x ∈ l, Plain n (e x)) : Plain (n + 1) (eT e l) := ⟨by rw [List.length_map]; exact hl, fun d hd => by obtain ⟨x, hx, rfl⟩ := List.mem_map.mp hd; exact h x hx⟩
theorem Plain.L {α : Type} {e : α → PyData} {n : Nat} {l : List α} (hl : l.length < 100000) (h : ∀ x ∈ l, Plain n (e x)) : Plain (n + 1) (eL e l) := ⟨by rw [List.length_map]; exact hl, fun d hd => by obtain ⟨x, hx, rfl⟩ := List.mem_map.mp hd; exact h x hx⟩
theorem Plain.I {n : Nat} {i : Int} : Plain n (eI i) := by cases n <;> trivial
theorem Ev.same {α : Type} [DecidableEq α] {e : α → PyData} {n : Nat} {x y : α} (h1 : Plain n (e x)) (h2 : Plain n (e y)) : Ev (m_law_same e n (x, y, ())) (· = decide (x = y)) := Ev.gd ⟨h1, h2⟩ (Ev.pure rfl)
end DW
namespace S76
open Classical
/-! sets of numbers as rising lists -/
abbrev SL (x : List Int) : Prop := x.Pairwise (· < ·)
abbrev Sub (p w : List Int) : Prop := ∀ n ∈ p, n ∈ w
def subL (p w : List Int) : Bool := p.all fun n => decide (n ∈ w)
theorem subL_iff {p w : List Int} : subL p w = true ↔ Sub p w := by unfold subL; simp
/-- by size, then by the items -/
def ltL (p q : List Int) : Prop := p.length < q.length ∨ (p.length = q.length ∧ p < q)
theorem lt_no {a b : List Int} (h : a < b) (k : b < a) : False := List.lt_irrefl a (List.lt_trans h k)
theorem ltL_no {a b : List Int} (h : ltL a b) (k : ltL b a) : False := by
  rcases h with h | ⟨e, h⟩ <;> rcases k with k | ⟨e', k⟩
  · omega
  · omega
  · omega
  · exact lt_no h k
theorem ltL_nd {l : List (List Int)} (h : l.Pairwise ltL) : l.Nodup := h.imp fun h e => by subst e; exact ltL_no h h
theorem canon_eq {l m : List (List Int)} (hl : l.Pairwise ltL) (hm : m.Pairwise ltL) (h : ∀ x, x ∈ l ↔ x ∈ m) : l = m :=
  ((List.perm_ext_iff_of_nodup (ltL_nd hl) (ltL_nd hm)).mpr h).eq_of_pairwise (le := ltL) (fun a b _ _ h1 h2 => (ltL_no h1 h2).elim) hl hm
theorem sl_sub : ∀ {x y : List Int}, SL x → SL y → Sub y x → y.Sublist x
  | _, [], _, _, _ => List.nil_sublist _
  | [], b :: y, _, _, h => by have := h b List.mem_cons_self; cases this
  | a :: x, b :: y, hx, hy, h => by
    rw [SL, List.pairwise_cons] at hx hy
    by_cases e : b = a
    · subst e
      refine .cons₂ _ (sl_sub hx.2 hy.2 fun n hn => ?_)
      have := hy.1 n hn
      exact (List.mem_cons.mp (h n (List.mem_cons_of_mem _ hn))).resolve_left fun z => by omega
    · have hb := (List.mem_cons.mp (h b List.mem_cons_self)).resolve_left e
      have hab := hx.1 b hb
      refine .cons _ (sl_sub hx.2 (List.pairwise_cons.mpr hy) fun n hn => ?_)
      refine (List.mem_cons.mp (h n hn)).resolve_left fun z => ?_
      rcases List.mem_cons.mp hn with z' | z'
      · omega
      · have := hy.1 n z'; omega
theorem sl_eq {x y : List Int} (hx : SL x) (hy : SL y) (h1 : Sub x y) (h2 : Sub y x) : x = y :=
  (sl_sub hy hx h1).eq_of_length_le (sl_sub hx hy h2).length_le
theorem sub_len {x y : List Int} (hx : SL x) (hy : SL y) (h : Sub y x) (n : y ≠ x) : y.length < x.length := by
  have s := sl_sub hx hy h
  have := s.length_le
  rcases Nat.lt_or_ge y.length x.length with z | z
  · exact z
  · exact (n (s.eq_of_length_le z)).elim
/-- those with q that contain no other -/
def Mi (l : List (List Int)) (q : List Int → Bool) (x : List Int) : Prop := q x = true ∧ ∀ y ∈ l, q y = true → Sub y x → y = x
theorem mi_ex {l : List (List Int)} {q : List Int → Bool} (sl : ∀ x ∈ l, SL x) : ∀ (n : Nat) (y : List Int), y.length ≤ n → y ∈ l → q y = true → ∃ t ∈ l, Mi l q t ∧ Sub t y := by
  intro n
  induction n with
  | zero =>
    intro y h hy hq
    refine ⟨y, hy, ⟨hq, fun w hw _ s => Classical.byContradiction fun ne => ?_⟩, fun _ h => h⟩
    have := sub_len (sl y hy) (sl w hw) s ne
    omega
  | succ n ih =>
    intro y h hy hq
    by_cases m : Mi l q y
    · exact ⟨y, hy, m, fun _ h => h⟩
    · have : ∃ w ∈ l, q w = true ∧ Sub w y ∧ w ≠ y := Classical.byContradiction fun z => m ⟨hq, fun w hw a b => Classical.byContradiction fun ne => z ⟨w, hw, a, b, ne⟩⟩
      obtain ⟨w, hw, a, b, ne⟩ := this
      have := sub_len (sl y hy) (sl w hw) b ne
      obtain ⟨t, ht, h1, h2⟩ := ih w (by omega) hw a
      exact ⟨t, ht, h1, fun k hk => b k (h2 k hk)⟩
/-- taken in order, if it contains none of those taken -/
def grS (q : List Int → Bool) (acc : List (List Int)) (x : List Int) : List (List Int) := if (!(acc.any fun y => subL y x) && q x) = true then acc ++ [x] else acc
def gr (q : List Int → Bool) (l : List (List Int)) : List (List Int) := l.foldl (grS q) []
theorem gr_eq {l : List (List Int)} {q : List Int → Bool} (hl : l.Pairwise ltL) (sl : ∀ x ∈ l, SL x) : gr q l = l.filter fun x => decide (Mi l q x) := by
  suffices h : ∀ s p, l = p ++ s → s.foldl (grS q) (p.filter fun x => decide (Mi l q x)) = l.filter fun x => decide (Mi l q x) from h l [] rfl
  intro s
  induction s with
  | nil => intro p e; rw [List.append_nil] at e; rw [e]; rfl
  | cons x s ih =>
    intro p e
    have key : grS q (p.filter fun x => decide (Mi l q x)) x = (p ++ [x]).filter fun x => decide (Mi l q x) := by
      have hx : x ∈ l := by rw [e]; simp
      have pw := hl
      rw [e, List.pairwise_append] at pw
      have behind : ∀ w ∈ l, w.length < x.length → w ∈ p := fun w hw hlt => by
        rw [e] at hw
        rcases List.mem_append.mp hw with z | z
        · exact z
        · have p2 := List.pairwise_cons.mp pw.2.1
          rcases List.mem_cons.mp z with z | z
          · subst z; omega
          · rcases p2.1 w z with h | h <;> omega
      rw [List.filter_append]
      unfold grS
      by_cases m : Mi l q x
      · have h1 : (p.filter fun x => decide (Mi l q x)).any (fun y => subL y x) = false := by
          rw [List.any_eq_false]
          intro y hy
          rw [List.mem_filter] at hy
          intro z
          have e1 := m.2 y (by rw [e]; exact List.mem_append_left _ hy.1) (of_decide_eq_true hy.2).1 (subL_iff.mp z)
          subst e1
          have := pw.2.2 y hy.1 y List.mem_cons_self
          exact ltL_no this this
        rw [h1, m.1]
        simp [m]
      · have h1 : (!(p.filter fun x => decide (Mi l q x)).any (fun y => subL y x) && q x) = false := by
          by_cases hq : q x = true
          · obtain ⟨t, ht, mt, st⟩ := mi_ex (q := q) sl _ x (Nat.le_refl _) hx hq
            have ne : t ≠ x := fun z => m (z ▸ mt)
            have tp := behind t ht (sub_len (sl x hx) (sl t ht) st ne)
            have : (p.filter fun x => decide (Mi l q x)).any (fun y => subL y x) = true := by
              rw [List.any_eq_true]
              exact ⟨t, List.mem_filter.mpr ⟨tp, by simpa using mt⟩, subL_iff.mpr st⟩
            rw [this]; rfl
          · simp at hq; rw [hq, Bool.and_false]
        rw [h1]
        simp [m]
    rw [List.foldl_cons, key]
    exact ih (p ++ [x]) (by simp [e])
theorem gr_mem {l : List (List Int)} {q : List Int → Bool} (hl : l.Pairwise ltL) (sl : ∀ x ∈ l, SL x) {x : List Int} : x ∈ gr q l ↔ x ∈ l ∧ Mi l q x := by rw [gr_eq hl sl, List.mem_filter]; simp
theorem gr_pw {l : List (List Int)} {q : List Int → Bool} (hl : l.Pairwise ltL) (sl : ∀ x ∈ l, SL x) : (gr q l).Pairwise ltL := by rw [gr_eq hl sl]; exact hl.sublist List.filter_sublist
/-- all sets of numbers of U, in order -/
structure Canon (U : List Int) (l : List (List Int)) : Prop where
  pw : l.Pairwise ltL
  mem : ∀ x, x ∈ l ↔ SL x ∧ Sub x U
theorem Canon.uniq {U : List Int} {l m : List (List Int)} (h : Canon U l) (k : Canon U m) : l = m := canon_eq h.pw k.pw fun x => (h.mem x).trans (k.mem x).symm
def hits (S : List (List Int)) (x : List Int) : Bool := S.all fun o => o.any fun n => decide (n ∈ x)
theorem hits_iff {S : List (List Int)} {x : List Int} : hits S x = true ↔ ∀ o ∈ S, ∃ n ∈ o, n ∈ x := by unfold hits; simp
/-- the numbers of the sets -/
def Nums (S : List (List Int)) (U : List Int) : Prop := SL U ∧ ∀ n, n ∈ U ↔ ∃ s ∈ S, n ∈ s
/-- crossing the crossing sets: the least sets -/
theorem dual {S L C C' : List (List Int)} {U U' : List Int} (sl : ∀ s ∈ S, SL s) (hL : L.Pairwise ltL) (mL : ∀ x, x ∈ L ↔ x ∈ S) (hU : Nums S U) (hC : Canon U C) (hU' : Nums (gr (hits S) C) U') (hC' : Canon U' C') : gr (hits (gr (hits S) C)) C' = gr (fun _ => true) L := by
  have slC : ∀ x ∈ C, SL x := fun x h => ((hC.mem x).mp h).1
  have slC' : ∀ x ∈ C', SL x := fun x h => ((hC'.mem x).mp h).1
  have slL : ∀ x ∈ L, SL x := fun x h => sl x ((mL x).mp h)
  have a : ∀ s ∈ S, hits (gr (hits S) C) s = true := fun s hs => hits_iff.mpr fun t ht => by
    obtain ⟨n, h1, h2⟩ := hits_iff.mp ((gr_mem hC.pw slC).mp ht).2.1 s hs
    exact ⟨n, h2, h1⟩
  have b : ∀ x : List Int, hits (gr (hits S) C) x = true → ∃ s ∈ S, Sub s x := fun x hx => Classical.byContradiction fun no => by
    have hz : (U.filter fun n => decide (n ∉ x)) ∈ C := (hC.mem _).mpr ⟨hU.1.sublist List.filter_sublist, fun n h => (List.mem_filter.mp h).1⟩
    have hq : hits S (U.filter fun n => decide (n ∉ x)) = true := hits_iff.mpr fun s hs => by
      have : ∃ n ∈ s, n ∉ x := Classical.byContradiction fun z => no ⟨s, hs, fun n hn => Classical.byContradiction fun w => z ⟨n, hn, w⟩⟩
      obtain ⟨n, h1, h2⟩ := this
      exact ⟨n, h1, List.mem_filter.mpr ⟨(hU.2 n).mpr ⟨s, hs, h1⟩, by simpa using h2⟩⟩
    obtain ⟨t, ht, mt, st⟩ := mi_ex slC _ _ (Nat.le_refl _) hz hq
    obtain ⟨n, h1, h2⟩ := hits_iff.mp hx t ((gr_mem hC.pw slC).mpr ⟨ht, mt⟩)
    have := (List.mem_filter.mp (st n h1)).2
    simp at this
    exact this h2
  have c : ∀ m ∈ L, Mi L (fun _ => true) m → Sub m U' := fun m hm mm n hn => Classical.byContradiction fun no => by
    obtain ⟨s, hs, h⟩ := b (m.filter fun k => decide (k ≠ n)) (hits_iff.mpr fun t ht => by
      obtain ⟨k, h1, h2⟩ := hits_iff.mp (a m ((mL m).mp hm)) t ht
      refine ⟨k, h1, List.mem_filter.mpr ⟨h2, ?_⟩⟩
      simp only [ne_eq, decide_not, Bool.not_eq_true', decide_eq_false_iff_not]
      intro e; subst e
      exact no ((hU'.2 k).mpr ⟨t, ht, h1⟩))
    have e := mm.2 s ((mL s).mpr hs) rfl fun k hk => (List.mem_filter.mp (h k hk)).1
    subst e
    have := (List.mem_filter.mp (h n hn)).2
    simp at this
  refine canon_eq (gr_pw hC'.pw slC') (gr_pw hL slL) fun x => ?_
  rw [gr_mem hC'.pw slC', gr_mem hL slL]
  constructor
  · intro ⟨hx, m⟩
    obtain ⟨s, hs, h⟩ := b x m.1
    obtain ⟨t, ht, mt, st⟩ := mi_ex (q := fun _ => true) slL _ s (Nat.le_refl _) ((mL s).mpr hs) rfl
    have e := m.2 t ((hC'.mem t).mpr ⟨slL t ht, c t ht mt⟩) (a t ((mL t).mp ht)) fun n hn => h n (st n hn)
    subst e
    exact ⟨ht, mt⟩
  · intro ⟨hx, m⟩
    refine ⟨(hC'.mem x).mpr ⟨slL x hx, c x hx m⟩, a x ((mL x).mp hx), fun y hy hq s => ?_⟩
    obtain ⟨o, ho, h⟩ := b y hq
    have e := m.2 o ((mL o).mpr ho) rfl fun n hn => s n (h n hn)
    subst e
    exact sl_eq (slC' y hy) (slL o hx) s h
end S76
namespace Cty
open PySem L2 PL DW
/-! villages parted into blocks, blocks named by a function -/
abbrev SL (x : List Int) : Prop := x.Pairwise (· < ·)
def InR (n : Nat) (v : Int) : Prop := 0 ≤ v ∧ v < n
structure Lbl (n : Nat) (D : List (List Int)) (f : Int → Int) : Prop where
  nd : D.flatten.Nodup
  cov : ∀ v, v ∈ D.flatten ↔ InR n v
  same : ∀ b ∈ D, ∀ u ∈ b, ∀ v, InR n v → (v ∈ b ↔ f v = f u)
  ne : ∀ b ∈ D, b ≠ []
def hit (stops b : List Int) : Bool := stops.any fun s => decide (s ∈ b)
theorem hit_iff {stops b : List Int} : hit stops b = true ↔ ∃ s ∈ stops, s ∈ b := by unfold hit; simp
def tch (D : List (List Int)) (stops : List Int) : List (List Int) := D.filter (hit stops)
theorem nd_parts {D : List (List Int)} (h : D.flatten.Nodup) : (∀ b ∈ D, b.Nodup) ∧ D.Pairwise fun a b => ∀ x ∈ a, ∀ y ∈ b, x ≠ y := by
  unfold List.Nodup at h
  exact List.pairwise_flatten.mp h
theorem nd_of_parts {D : List (List Int)} (h1 : ∀ b ∈ D, b.Nodup) (h2 : D.Pairwise fun a b => ∀ x ∈ a, ∀ y ∈ b, x ≠ y) : D.flatten.Nodup := List.pairwise_flatten.mpr ⟨h1, h2⟩
theorem nd_filter {D : List (List Int)} (p : List Int → Bool) (h : D.flatten.Nodup) : (D.filter p).flatten.Nodup := by
  obtain ⟨h1, h2⟩ := nd_parts h
  exact nd_of_parts (fun b hb => h1 b (List.mem_filter.mp hb).1) (h2.filter p)
section
variable {n : Nat} {D : List (List Int)} {f : Int → Int}
theorem Lbl.blk (h : Lbl n D f) {v : Int} (hv : InR n v) : ∃ b ∈ D, v ∈ b := by
  obtain ⟨b, h1, h2⟩ := List.mem_flatten.mp ((h.cov v).mpr hv)
  exact ⟨b, h1, h2⟩
theorem Lbl.inr (h : Lbl n D f) {b : List Int} {v : Int} (hb : b ∈ D) (hv : v ∈ b) : InR n v := (h.cov v).mp (List.mem_flatten.mpr ⟨b, hb, hv⟩)
theorem headD_mem {b : List Int} (h : b ≠ []) : b.headD 0 ∈ b := by cases b with
  | nil => exact absurd rfl h
  | cons x b => exact List.mem_cons_self
theorem Lbl.touched (h : Lbl n D f) {stops : List Int} (hs : ∀ s ∈ stops, InR n s) {b : List Int} (hb : b ∈ D) : hit stops b = true ↔ f (b.headD 0) ∈ stops.map f := by
  have hh := headD_mem (h.ne b hb)
  rw [hit_iff, List.mem_map]
  constructor
  · rintro ⟨s, h1, h2⟩; exact ⟨s, h1, (h.same b hb _ hh s (hs s h1)).mp h2⟩
  · rintro ⟨s, h1, h2⟩; exact ⟨s, h1, (h.same b hb _ hh s (hs s h1)).mpr h2⟩
theorem Lbl.count (h : Lbl n D f) {stops L : List Int} (hs : ∀ s ∈ stops, InR n s) (nd : L.Nodup) (mem : ∀ k, k ∈ L ↔ k ∈ stops.map f) : (tch D stops).length = L.length := by
  have e : ((tch D stops).map fun b => f (b.headD 0)).Perm L := by
    refine (List.perm_ext_iff_of_nodup ?_ nd).mpr fun k => ?_
    · unfold List.Nodup tch
      rw [List.pairwise_map]
      have p := (nd_parts h.nd).2
      refine (List.Pairwise.and_mem.mp (p.filter (hit stops))).imp fun {a b} ⟨ha, hb, hd⟩ e => ?_
      have ha := (List.mem_filter.mp ha).1
      have hb := (List.mem_filter.mp hb).1
      have h1 := headD_mem (h.ne a ha)
      have h2 := headD_mem (h.ne b hb)
      exact hd _ ((h.same a ha _ h1 _ (h.inr hb h2)).mpr e.symm) _ h2 rfl
    · rw [mem, List.mem_map]
      constructor
      · rintro ⟨b, hb, rfl⟩
        obtain ⟨h1, h2⟩ := List.mem_filter.mp hb
        exact (h.touched hs h1).mp h2
      · intro hk
        obtain ⟨s, h1, rfl⟩ := List.mem_map.mp hk
        obtain ⟨b, hb, h2⟩ := h.blk (hs s h1)
        exact ⟨b, List.mem_filter.mpr ⟨hb, hit_iff.mpr ⟨s, h1, h2⟩⟩, ((h.same b hb _ (headD_mem (h.ne b hb)) s (hs s h1)).mp h2).symm⟩
  have := e.length_eq
  rw [List.length_map] at this; exact this
theorem sum_perm {a b : List Int} (p : a.Perm b) : a.sum = b.sum := by
  induction p with
  | nil => rfl
  | cons x _ ih => rw [List.sum_cons, List.sum_cons, ih]
  | swap x y l => simp only [List.sum_cons]; omega
  | trans _ _ h1 h2 => exact h1.trans h2
def rg (n : Nat) : List Int := rgI 0 (n : Int)
theorem rg_eq (n : Nat) : rg n = (List.range n).map fun k => ((k : Nat) : Int) := by
  unfold rg rgI
  rw [Int.sub_zero, Int.toNat_natCast]
  exact List.map_congr_left fun k _ => Int.zero_add _
theorem rg_len (n : Nat) : (rg n).length = n := by rw [rg_eq]; simp
theorem mem_rg {n : Nat} {v : Int} : v ∈ rg n ↔ InR n v := by
  rw [rg_eq, List.mem_map]
  constructor
  · rintro ⟨k, h, rfl⟩; have := List.mem_range.mp h; exact ⟨by omega, by omega⟩
  · intro h; exact ⟨v.toNat, List.mem_range.mpr (by have := h.1; have := h.2; omega), by have := h.1; omega⟩
theorem rg_sl (n : Nat) : SL (rg n) := by rw [rg_eq, SL, List.pairwise_map]; exact List.pairwise_lt_range.imp fun h => by omega
theorem sl_nd {l : List Int} (h : SL l) : l.Nodup := h.imp fun h => by omega
/-- the heads of what is touched -/
theorem Lbl.heads (h : Lbl n D f) {stops L : List Int} (hs : ∀ s ∈ stops, InR n s) (mem : ∀ k, k ∈ L ↔ k ∈ stops.map f) (c : Int → Int) : ((tch D stops).flatten.map c).sum = (((rg n).filter fun v => decide (f v ∈ L)).map c).sum := by
  refine sum_perm (List.Perm.map c ?_)
  refine (List.perm_ext_iff_of_nodup (nd_filter _ h.nd) ((sl_nd (rg_sl n)).filter _)).mpr fun v => ?_
  rw [List.mem_flatten, List.mem_filter, mem_rg, decide_eq_true_iff, mem]
  constructor
  · rintro ⟨b, hb, hv⟩
    obtain ⟨h1, h2⟩ := List.mem_filter.mp hb
    obtain ⟨s, s1, s2⟩ := hit_iff.mp h2
    have iv := h.inr h1 hv
    exact ⟨iv, List.mem_map.mpr ⟨s, s1, ((h.same b h1 s s2 v iv).mp hv).symm⟩⟩
  · rintro ⟨iv, hk⟩
    obtain ⟨s, s1, s2⟩ := List.mem_map.mp hk
    obtain ⟨b, hb, h2⟩ := h.blk (hs s s1)
    exact ⟨b, List.mem_filter.mpr ⟨hb, hit_iff.mpr ⟨s, s1, h2⟩⟩, (h.same b hb s h2 v iv).mpr s2.symm⟩
/-- touched blocks joined -/
def joinD (D : List (List Int)) (stops : List Int) : List (List Int) := (tch D stops).flatten :: D.filter fun b => !hit stops b
theorem Lbl.join (h : Lbl n D f) {stops L : List Int} {m : Int} (hs : ∀ s ∈ stops, InR n s) (h0 : stops ≠ []) (mem : ∀ k, k ∈ L ↔ k ∈ stops.map f) (hm : m ∈ L) : Lbl n (joinD D stops) fun v => if f v ∈ L then m else f v := by
  have key : ∀ b ∈ D, ∀ v ∈ b, hit stops b = true ↔ f v ∈ L := fun b hb v hv => by
    rw [h.touched hs hb, mem, (h.same b hb _ (headD_mem (h.ne b hb)) v (h.inr hb hv)).mp hv]
  have mJ : ∀ v, InR n v → (v ∈ (tch D stops).flatten ↔ f v ∈ L) := fun v iv => by
    rw [List.mem_flatten]
    constructor
    · rintro ⟨b, hb, hv⟩
      obtain ⟨h1, h2⟩ := List.mem_filter.mp hb
      exact (key b h1 v hv).mp h2
    · intro hk
      obtain ⟨b, hb, hv⟩ := h.blk iv
      exact ⟨b, List.mem_filter.mpr ⟨hb, (key b hb v hv).mpr hk⟩, hv⟩
  refine ⟨?_, fun v => ?_, fun b hb u hu v iv => ?_, fun b hb => ?_⟩
  · unfold joinD
    rw [List.flatten_cons]
    refine List.nodup_append.mpr ⟨nd_filter _ h.nd, nd_filter _ h.nd, fun x hx y hy e => ?_⟩
    subst e
    obtain ⟨b, hb, hv⟩ := List.mem_flatten.mp hx
    obtain ⟨b', hb', hv'⟩ := List.mem_flatten.mp hy
    obtain ⟨h1, h2⟩ := List.mem_filter.mp hb
    obtain ⟨h3, h4⟩ := List.mem_filter.mp hb'
    rw [(key b' h3 x hv').mpr ((key b h1 x hv).mp h2)] at h4
    cases h4
  · unfold joinD
    rw [List.flatten_cons, List.mem_append, ← h.cov v, List.mem_flatten, List.mem_flatten, List.mem_flatten]
    constructor
    · rintro (⟨b, hb, hv⟩ | ⟨b, hb, hv⟩)
      · exact ⟨b, (List.mem_filter.mp hb).1, hv⟩
      · exact ⟨b, (List.mem_filter.mp hb).1, hv⟩
    · rintro ⟨b, hb, hv⟩
      cases q : hit stops b with
      | true => exact .inl ⟨b, List.mem_filter.mpr ⟨hb, q⟩, hv⟩
      | false => exact .inr ⟨b, List.mem_filter.mpr ⟨hb, by rw [q]; rfl⟩, hv⟩
  · rcases List.mem_cons.mp hb with rfl | hb
    · obtain ⟨b', hb', hu'⟩ := List.mem_flatten.mp hu
      have iu := h.inr (List.mem_filter.mp hb').1 hu'
      have ku := (mJ u iu).mp hu
      rw [mJ v iv, if_pos ku]
      constructor
      · intro k; rw [if_pos k]
      · intro e
        by_cases k : f v ∈ L
        · exact k
        · rw [if_neg k] at e; rw [e]; exact hm
    · obtain ⟨h1, h2⟩ := List.mem_filter.mp hb
      have ku : f u ∉ L := fun k => by rw [(key b h1 u hu).mpr k] at h2; cases h2
      rw [if_neg ku, h.same b h1 u hu v iv]
      constructor
      · intro e; rw [if_neg (by rw [e]; exact ku)]; exact e
      · intro e
        by_cases k : f v ∈ L
        · rw [if_pos k] at e; rw [← e] at ku; exact absurd hm ku
        · rw [if_neg k] at e; exact e
  · rcases List.mem_cons.mp hb with rfl | hb
    · cases hst : stops with
      | nil => exact absurd hst h0
      | cons s st =>
        have hs1 := hs s (by rw [hst]; exact List.mem_cons_self)
        have : s ∈ (tch D stops).flatten := (mJ s hs1).mpr ((mem _).mpr (List.mem_map.mpr ⟨s, by rw [hst]; exact List.mem_cons_self, rfl⟩))
        intro z
        rw [hst] at this
        rw [z] at this; cases this
    · exact h.ne b (List.mem_filter.mp hb).1
/-- sorted, each and all -/
theorem Lbl.perm (h : Lbl n D f) {E : List (List Int)} (p : E.Perm (D.map srtI)) : Lbl n E f := by
  have fl : ∀ {A B : List (List Int)}, A.Perm B → A.flatten.Perm B.flatten := fun {A B} q => by
    induction q with
    | nil => exact .nil
    | cons x _ ih => rw [List.flatten_cons, List.flatten_cons]; exact ih.append_left x
    | swap x y l =>
      simp only [List.flatten_cons]
      rw [← List.append_assoc, ← List.append_assoc]
      exact List.perm_append_comm.append_right _
    | trans _ _ h1 h2 => exact h1.trans h2
  have fs : ∀ A : List (List Int), (A.map srtI).flatten.Perm A.flatten := fun A => by
    induction A with
    | nil => exact .nil
    | cons x A ih => rw [List.map_cons, List.flatten_cons, List.flatten_cons]; exact (srtI_perm x).append ih
  have fp : E.flatten.Perm D.flatten := (fl p).trans (fs D)
  have mem : ∀ b ∈ E, ∃ d ∈ D, b.Perm d := fun b hb => by
    obtain ⟨d, h1, h2⟩ := List.mem_map.mp (p.mem_iff.mp hb)
    exact ⟨d, h1, by rw [← h2]; exact srtI_perm d⟩
  refine ⟨fp.nodup_iff.mpr h.nd, fun v => by rw [fp.mem_iff]; exact h.cov v, fun b hb u hu v iv => ?_, fun b hb => ?_⟩
  · obtain ⟨d, h1, h2⟩ := mem b hb
    rw [h2.mem_iff]
    exact h.same d h1 u (h2.mem_iff.mp hu) v iv
  · obtain ⟨d, h1, h2⟩ := mem b hb
    intro z
    subst z
    exact h.ne d h1 h2.symm.eq_nil
theorem Lbl.congr {g : Int → Int} (h : Lbl n D f) (e : ∀ v, InR n v → g v = f v) : Lbl n D g :=
  ⟨h.nd, h.cov, fun b hb u hu v iv => by rw [e v iv, e u (h.inr hb hu)]; exact h.same b hb u hu v iv, h.ne⟩
end
theorem lbl_singles (n : Nat) : Lbl n ((rg n).map fun v => [v]) fun v => v := by
  have e : ((rg n).map fun v => [v]).flatten = rg n := by
    induction rg n with
    | nil => rfl
    | cons x l ih => rw [List.map_cons, List.flatten_cons, ih]; rfl
  refine ⟨by rw [e]; exact sl_nd (rg_sl n), fun v => by rw [e, mem_rg], fun b hb u hu v iv => ?_, fun b hb => ?_⟩
  · obtain ⟨w, _, rfl⟩ := List.mem_map.mp hb
    rw [List.mem_singleton.mp hu, List.mem_singleton]
  · obtain ⟨w, _, rfl⟩ := List.mem_map.mp hb
    exact fun z => by cases z
/-! the different ones, ascending -/
theorem uq_ex (l : List Int) : ∃ u, SL u ∧ ∀ k, k ∈ u ↔ k ∈ l := by
  induction l with
  | nil => exact ⟨[], .nil, fun k => Iff.rfl⟩
  | cons x l ih =>
    obtain ⟨u, h1, h2⟩ := ih
    by_cases hx : x ∈ u
    · exact ⟨u, h1, fun k => by rw [List.mem_cons, h2]; exact ⟨.inr, fun z => z.elim (fun e => by rw [e]; exact (h2 x).mp hx) id⟩⟩
    · have p := srtI_perm (x :: u)
      refine ⟨srtI (x :: u), ?_, fun k => by rw [p.mem_iff, List.mem_cons, List.mem_cons, h2]⟩
      have nd : (srtI (x :: u)).Nodup := p.nodup_iff.mpr (List.nodup_cons.mpr ⟨hx, sl_nd h1⟩)
      exact (List.Pairwise.and (srtI_pw (x :: u)) nd).imp fun ⟨a, b⟩ => by omega
noncomputable def uq (l : List Int) : List Int := (uq_ex l).choose
theorem uq_sl (l : List Int) : SL (uq l) := (uq_ex l).choose_spec.1
theorem uq_mem {l : List Int} {k : Int} : k ∈ uq l ↔ k ∈ l := (uq_ex l).choose_spec.2 k
theorem uq_uniq {l u : List Int} (h : SL u) (m : ∀ k, k ∈ u ↔ k ∈ l) : u = uq l := S76.sl_eq h (uq_sl l) (fun k hk => uq_mem.mpr ((m k).mp hk)) fun k hk => (m k).mpr (uq_mem.mp hk)
theorem uq_len {l L : List Int} (nd : L.Nodup) (m : ∀ k, k ∈ L ↔ k ∈ l) : L.length = (uq l).length := ((List.perm_ext_iff_of_nodup nd (sl_nd (uq_sl l))).mpr fun k => by rw [m, uq_mem]).length_eq
theorem uq_len_le (l : List Int) : (uq l).length ≤ l.length := by
  have : ∀ (a b : List Int), a.Nodup → (∀ x ∈ a, x ∈ b) → a.length ≤ b.length := by
    intro a
    induction a with
    | nil => intro b _ _; exact Nat.zero_le _
    | cons x a ih =>
      intro b nd h
      rw [List.nodup_cons] at nd
      have h1 := h x List.mem_cons_self
      have := ih (b.erase x) nd.2 fun y hy => (List.mem_erase_of_ne (fun e => nd.1 (by rw [← e]; exact hy))).mpr (h y (List.mem_cons_of_mem _ hy))
      rw [List.length_erase_of_mem h1] at this
      have := List.length_pos_of_mem h1
      rw [List.length_cons]; omega
  exact this _ _ (sl_nd (uq_sl l)) fun x hx => uq_mem.mp hx
end Cty
namespace Cty
open PySem L2 PL DW
/-! what the small defs come to -/
theorem Ev.cmp2c {α β γ : Type} {xs : List α} {c0 : α → W Bool} {p0 : α → Bool} {g : α → W (List β)} {pg : α → List β} {f : α → β → W γ} {pf : α → β → γ} {acc : List γ} (h0 : ∀ x ∈ xs, Ev (c0 x) (· = p0 x)) (hg : ∀ x ∈ xs, p0 x = true → Ev (g x) (· = pg x)) (hf : ∀ x ∈ xs, p0 x = true → ∀ y ∈ pg x, Ev (f x y) (· = pf x y)) (hl : acc.length + ((xs.filter p0).flatMap fun x => (pg x).map (pf x)).length ≤ 100000) :
    Ev (cmp2A xs c0 g (fun _ _ => pure true) f acc) (· = acc ++ (xs.filter p0).flatMap fun x => (pg x).map (pf x)) := by
  induction xs generalizing acc with
  | nil => exact Ev.pure (by simp)
  | cons x xs ih =>
    have ih := fun acc => ih (acc := acc) (fun y hy => h0 y (List.mem_cons_of_mem _ hy)) (fun y hy => hg y (List.mem_cons_of_mem _ hy)) (fun y hy => hf y (List.mem_cons_of_mem _ hy))
    refine Ev.det (h0 x List.mem_cons_self) ?_
    by_cases h : p0 x = true
    · rw [List.filter_cons_of_pos h, List.flatMap_cons, List.length_append, List.length_map] at hl
      rw [if_pos h, List.filter_cons_of_pos h, List.flatMap_cons]
      have hc := Ev.cmpA (xs := pg x) (c := fun _ => pure true) (f := f x) (pc := fun _ => true) (pf := pf x) (acc := acc) (fun _ _ => Ev.pure rfl) (fun y hy _ => hf x List.mem_cons_self h y hy) (by omega)
      rw [List.filter_eq_self.mpr (fun _ _ => rfl)] at hc
      refine Ev.det (hg x List.mem_cons_self h) (Ev.det hc ((ih _ (by rw [List.length_append, List.length_map]; omega)).imp fun v e => by rw [e, List.append_assoc]))
    · rw [if_neg h, List.filter_cons_of_neg h]
      rw [List.filter_cons_of_neg h] at hl
      exact ih acc hl
def cen (c : List Int) (v : Int) : Int := (c[v.toNat]?).getD 0
theorem e_get {c : List Int} {n : Nat} {v : Int} (hc : c.length = n) (hv : InR n v) : Ev (getW c v) (· = cen c v) := by
  obtain ⟨h0, h1⟩ := hv
  obtain ⟨k, rfl⟩ := Int.eq_ofNat_of_zero_le h0
  have hk : k < c.length := by omega
  refine Ev.get (DW.atI_nat ?_)
  show c[k]? = some ((c[k]?).getD 0)
  rw [List.getElem?_eq_getElem hk]; rfl
theorem e_uset {ns : List Int} {n : Nat} (h1 : ns.length < 4000) (h2 : n < 64) (h3 : ∀ k ∈ ns, InR n k) : Ev (usetW ns) (· = uq ns) := fun P q => ⟨⟨h1, rg n, by rw [rg_len]; exact h2, fun k hk => mem_rg.mpr (h3 k hk)⟩, fun u a b => q _ (uq_uniq a b)⟩
theorem e_lenset {ns : List Int} (h1 : ns.length < 4000) : Ev (lensetW ns) (· = (((uq ns).length : Nat) : Int)) := fun P q => ⟨h1, fun L a b => q _ (by rw [uq_len a b])⟩
theorem enumL_snd {α : Type} (D : List α) : (enumL D).map (·.2) = D := by
  refine List.ext_getElem? fun i => ?_
  rw [List.getElem?_map, enumL_get]
  cases D[i]? <;> rfl
theorem enumL_mem {α : Type} {D : List α} {p : Int × α} : p ∈ enumL D ↔ ∃ i : Nat, p.1 = (i : Int) ∧ D[i]? = some p.2 := by
  constructor
  · intro h
    obtain ⟨i, hi⟩ := List.getElem?_of_mem h
    rw [enumL_get] at hi
    cases q : D[i]? with
    | none => rw [q] at hi; cases hi
    | some x => rw [q] at hi; cases hi; exact ⟨i, rfl, q⟩
  · rintro ⟨i, e1, e2⟩
    refine List.mem_of_getElem? (i := i) ?_
    rw [enumL_get, e2]
    show some ((i : Int), p.2) = some p
    rw [← e1]
theorem filter_snd {α : Type} (D : List α) (p : α → Bool) : ((enumL D).filter fun x => p x.2).map (·.2) = D.filter p := by
  have := enumL_snd D
  conv => rhs; rw [← this, List.filter_map]
  rfl
/-- the places of what is touched -/
def tix (D : List (List Int)) (stops : List Int) : List Int := ((enumL D).filter fun p => hit stops p.2).map (·.1)
theorem mem_tix {D : List (List Int)} {stops : List Int} {p : Int × List Int} (hp : p ∈ enumL D) : p.1 ∈ tix D stops ↔ hit stops p.2 = true := by
  unfold tix
  rw [List.mem_map]
  constructor
  · rintro ⟨q, hq, e⟩
    obtain ⟨h1, h2⟩ := List.mem_filter.mp hq
    obtain ⟨i, a1, a2⟩ := enumL_mem.mp hp
    obtain ⟨j, b1, b2⟩ := enumL_mem.mp h1
    have : i = j := by omega
    subst this
    rw [a2] at b2
    rw [Option.some.inj b2]; exact h2
  · intro h; exact ⟨p, List.mem_filter.mpr ⟨hp, h⟩, rfl⟩
theorem tix_len {D : List (List Int)} {stops : List Int} : (tix D stops).length = (tch D stops).length := by
  have := congrArg List.length (filter_snd D (hit stops))
  rw [List.length_map] at this
  unfold tix tch
  rw [List.length_map]; exact this
theorem tix_len_le {D : List (List Int)} {stops : List Int} : (tix D stops).length ≤ D.length := by rw [tix_len]; exact List.length_filter_le _ _
theorem tix_blocks {D : List (List Int)} {stops : List Int} : ((tix D stops).map fun i => (D[i.toNat]?).getD []) = tch D stops := by
  unfold tix
  rw [List.map_map]
  have e : ((enumL D).filter fun p => hit stops p.2).map ((fun i : Int => (D[i.toNat]?).getD []) ∘ fun x => x.1) = ((enumL D).filter fun p => hit stops p.2).map (·.2) := List.map_congr_left fun p hp => by
    obtain ⟨i, a1, a2⟩ := enumL_mem.mp (List.mem_filter.mp hp).1
    show (D[p.1.toNat]?).getD [] = p.2
    rw [a1, Int.toNat_natCast, a2]; rfl
  rw [e, filter_snd]; rfl
/-- divisions that are not too large -/
structure Sm (D : List (List Int)) : Prop where
  l : D.length ≤ 100
  f : D.flatten.length ≤ 1000
theorem Sm.blk {D : List (List Int)} (h : Sm D) {b : List Int} (hb : b ∈ D) : b.length ≤ 1000 := by
  have := (List.sublist_flatten_of_mem hb).length_le
  have := h.f; omega
theorem e_touched {D : List (List Int)} {stops : List Int} (h : Sm D) (hs : stops.length ≤ 1000) : Ev (m_touched_by (D, stops, ())) (· = tix D stops) := by
  have := h.l
  unfold m_touched_by
  simp only [pure_bind, bind_assoc, seqW_bind, seqW_nx, runW_bind, runW_rt, seqW_rt, runW_ite, seqW_ite]
  refine Ev.gd (by rw [enumL_len]; omega) (Ev.det (Ev.cmp (pc := fun p => hit stops p.2) (pf := fun p => p.1) (fun p hp => ?_) fun p _ _ => Ev.pure rfl) (Ev.rt rfl))
  refine Ev.gd (by omega) (Ev.det (Ev.cmp1 (pf := fun s => decide (s ∈ p.2)) fun _ _ => Ev.pure rfl) (Ev.pure ?_))
  rw [List.any_map]; rfl
theorem e_places {D : List (List Int)} {stops : List Int} (h : Sm D) : Ev (cmpW (tix D stops) (fun _ => pure true) fun x => getW D x) (· = tch D stops) := by
  rw [← tix_blocks]
  refine Ev.cmp1 (pf := fun i : Int => (D[i.toNat]?).getD []) fun i hi => ?_
  obtain ⟨p, hp, rfl⟩ := List.mem_map.mp hi
  obtain ⟨j, a1, a2⟩ := enumL_mem.mp (List.mem_filter.mp hp).1
  rw [a1, Int.toNat_natCast, a2]
  exact Ev.get (DW.atI_nat a2)
theorem flat_id {D : List (List Int)} : (D.flatMap fun x => x) = D.flatten := by
  induction D with
  | nil => rfl
  | cons x D ih => rw [List.flatMap_cons, List.flatten_cons, ih]
theorem flat_map {D : List (List Int)} {c : Int → Int} : (D.flatMap fun x => x.map c) = D.flatten.map c := by
  induction D with
  | nil => rfl
  | cons x D ih => rw [List.flatMap_cons, List.flatten_cons, ih, List.map_append]
theorem filt_true {α : Type} {l : List α} : (l.filter fun _ => true) = l := List.filter_eq_self.mpr fun _ _ => rfl
theorem e_heads {n : Nat} {c : List Int} {D : List (List Int)} (hc : c.length = n) (hf : D.flatten.length ≤ 1000) (hD : ∀ v ∈ D.flatten, InR n v) : Ev (m_heads_of_blocks (c, D, ())) (· = (D.flatten.map (cen c)).sum) := by
  unfold m_heads_of_blocks
  simp only [pure_bind, bind_assoc, seqW_bind, seqW_nx, runW_bind, runW_rt, seqW_rt, runW_ite, seqW_ite]
  refine Ev.det (Ev.cmp2c (p0 := fun _ => true) (pg := fun b => b) (pf := fun _ v => cen c v) (fun _ _ => Ev.pure rfl) (fun _ _ _ => Ev.pure rfl) (fun b hb _ v hv => e_get hc (hD v (List.mem_flatten.mpr ⟨b, hb, hv⟩))) ?_) (Ev.rt ?_)
  · rw [filt_true, flat_map, List.length_map, List.length_nil]; omega
  · rw [filt_true, List.nil_append, flat_map]
def ordD (D : List (List Int)) : List (List Int) := srtE (eL eI) ((D.filter fun b => decide (0 < b.length)).map srtI)
theorem srtE_permL {α : Type} {e : α → PyData} (l : List α) : (srtE e l).Perm l := by unfold srtE; exact List.mergeSort_perm _ _
theorem e_ordered {D : List (List Int)} (h : D.length < 100000) : Ev (m_ordered (D, ())) (· = ordD D) := by
  unfold m_ordered
  simp only [pure_bind, bind_assoc, seqW_bind, seqW_nx, runW_bind, runW_rt, seqW_rt, runW_ite, seqW_ite]
  refine Ev.gd h (Ev.det (Ev.cmp (pc := fun b => decide (0 < b.length)) (pf := fun b => srtI b) (fun b _ => Ev.pure ?_) fun b _ _ => Ev.pure rfl) (Ev.rt rfl))
  rw [Bool.eq_iff_iff]; simp
theorem ordD_perm {D : List (List Int)} (h : ∀ b ∈ D, b ≠ []) : (ordD D).Perm (D.map srtI) := by
  have e : (D.filter fun b => decide (0 < b.length)) = D := List.filter_eq_self.mpr fun b hb => decide_eq_true (List.length_pos_iff.mpr (h b hb))
  unfold ordD
  rw [e]
  exact srtE_permL _
theorem Lbl.ord {n : Nat} {D : List (List Int)} {f : Int → Int} (h : Lbl n D f) : Lbl n (ordD D) f := h.perm (ordD_perm h.ne)
theorem Lbl.flen {n : Nat} {D : List (List Int)} {f : Int → Int} (h : Lbl n D f) : D.flatten.length = n := by
  have := ((List.perm_ext_iff_of_nodup h.nd (sl_nd (rg_sl n))).mpr fun v => by rw [h.cov, mem_rg]).length_eq
  rw [rg_len] at this; exact this
theorem ne_len : ∀ {D : List (List Int)}, (∀ b ∈ D, b ≠ []) → D.length ≤ D.flatten.length
  | [], _ => Nat.zero_le _
  | x :: D, h => by
    have := ne_len (D := D) fun b hb => h b (List.mem_cons_of_mem _ hb)
    have := List.length_pos_iff.mpr (h x List.mem_cons_self)
    rw [List.flatten_cons, List.length_append, List.length_cons]; omega
theorem Lbl.sm {n : Nat} {D : List (List Int)} {f : Int → Int} (h : Lbl n D f) (hn : n ≤ 8) : Sm D := ⟨by have := ne_len h.ne; have := h.flen; omega, by have := h.flen; omega⟩
theorem e_join {n : Nat} {D : List (List Int)} {f : Int → Int} {stops : List Int} (h : Lbl n D f) (hn : n ≤ 8) : Ev (m_join_blocks (D, tix D stops, ())) (· = ordD (joinD D stops)) := by
  have sm := h.sm hn
  have hl := sm.l
  unfold m_join_blocks
  simp only [pure_bind, bind_assoc, seqW_bind, seqW_nx, runW_bind, runW_rt, seqW_rt, runW_ite, seqW_ite]
  have e1 : ∀ p ∈ enumL D, decide (p.1 ∈ tix D stops) = hit stops p.2 := fun p hp => by rw [Bool.eq_iff_iff, decide_eq_true_iff]; exact mem_tix hp
  have e2 : ((enumL D).filter fun p => decide (p.1 ∈ tix D stops)) = (enumL D).filter fun p => hit stops p.2 := List.filter_congr e1
  have e3 : (((enumL D).filter fun p => decide (p.1 ∈ tix D stops)).flatMap fun p => p.2.map fun y => y) = (tch D stops).flatten := by
    rw [e2]
    have : ((enumL D).filter fun p => hit stops p.2).flatMap (fun p => p.2.map fun y => y) = (((enumL D).filter fun p => hit stops p.2).map (·.2)).flatMap fun x => x := by
      rw [List.flatMap_map]
      simp only [List.map_id']
    rw [this, filter_snd, flat_id]; rfl
  have e4 : (((enumL D).filter fun p => !decide (p.1 ∈ tix D stops)).map (·.2)) = D.filter fun b => !hit stops b := by
    have : ((enumL D).filter fun p => !decide (p.1 ∈ tix D stops)) = (enumL D).filter fun p => !hit stops p.2 := List.filter_congr fun p hp => by rw [e1 p hp]
    rw [this, filter_snd D fun b => !hit stops b]
  have fl : (tch D stops).flatten.length ≤ 1000 := by
    have : ((tch D stops).flatten).length ≤ D.flatten.length := by
      unfold tch
      rw [List.length_flatten, List.length_flatten]
      have : ∀ E : List (List Int), ((E.filter (hit stops)).map List.length).sum ≤ (E.map List.length).sum := by
        intro E
        induction E with
        | nil => exact Nat.le_refl _
        | cons x E ih =>
          by_cases z : hit stops x = true
          · rw [List.filter_cons_of_pos z, List.map_cons, List.map_cons, List.sum_cons, List.sum_cons]; omega
          · rw [List.filter_cons_of_neg z, List.map_cons, List.sum_cons]; omega
      exact this D
    have := sm.f; omega
  refine Ev.det (Ev.cmp2c (p0 := fun p => decide (p.1 ∈ tix D stops)) (pg := fun p => p.2) (pf := fun _ y => y) (fun _ _ => Ev.pure rfl) (fun _ _ _ => Ev.pure rfl) (fun _ _ _ _ _ => Ev.pure rfl) (by rw [e3, List.length_nil]; omega)) ?_
  rw [List.nil_append, e3]
  refine Ev.gd (by rw [enumL_len]; omega) (Ev.det (Ev.cmp (pc := fun p => !decide (p.1 ∈ tix D stops)) (pf := fun p => p.2) (fun _ _ => Ev.pure rfl) fun _ _ _ => Ev.pure rfl) ?_)
  rw [e4, List.append_nil]
  have l4 : (D.filter fun b => !hit stops b).length ≤ D.length := List.length_filter_le _ _
  exact Ev.gd (by rw [List.length_cons]; omega) (Ev.det (e_ordered (by rw [List.length_cons]; omega)) (Ev.rt rfl))
theorem e_together {n : Nat} {D : List (List Int)} {f : Int → Int} {party : List Int} (h : Lbl n D f) (hn : n ≤ 8) (hp : ∀ s ∈ party, InR n s) (hl : party.length ≤ 1000) : Ev (m_is_together (D, party, ())) (· = decide ((uq (party.map f)).length = 1)) := by
  unfold m_is_together
  simp only [pure_bind, bind_assoc, seqW_bind, seqW_nx, runW_bind, runW_rt, seqW_rt, runW_ite, seqW_ite]
  refine Ev.det (e_touched (h.sm hn) hl) (Ev.rt ?_)
  rw [tix_len, h.count hp (sl_nd (uq_sl (party.map f))) fun k => uq_mem]
  rw [Bool.eq_iff_iff]; simp; omega
theorem e_singles {n : Nat} (hn : n ≤ 8) : Ev (m_singles ((n : Int), ())) (· = (rg n).map fun v => [v]) := by
  unfold m_singles
  simp only [pure_bind, bind_assoc, seqW_bind, seqW_nx, runW_bind, runW_rt, seqW_rt, runW_ite, seqW_ite]
  exact Ev.gd ⟨by omega, by omega⟩ (Ev.gd (by have := rg_len n; unfold rg at this; omega) (Ev.det (Ev.cmp1 (pf := fun v => [v]) fun _ _ => Ev.gd (by simp) (Ev.pure rfl)) (Ev.rt rfl)))
end Cty
namespace Cty
open PySem L2 PL DW
/-! labels -/
structure Lab (n : Nat) (l : List Int) : Prop where
  len : l.length = n
  inr : ∀ x ∈ l, InR n x
/-- a county: lines and people -/
structure Land (n : Nat) (lines : List (List Int × Int)) (c : List Int) : Prop where
  n8 : n ≤ 8
  cl : c.length = n
  few : lines.length ≤ 20
  st : ∀ l ∈ lines, (∀ s ∈ l.1, InR n s) ∧ l.1 ≠ [] ∧ l.1.length ≤ 20
theorem cen_mem {l : List Int} {n : Nat} {v : Int} (h : l.length = n) (hv : InR n v) : cen l v ∈ l := by
  obtain ⟨h0, h1⟩ := hv
  obtain ⟨k, rfl⟩ := Int.eq_ofNat_of_zero_le h0
  have hk : k < l.length := by omega
  show (l[k]?).getD 0 ∈ l
  rw [List.getElem?_eq_getElem hk]
  exact List.getElem_mem hk
theorem Lab.at {n : Nat} {l : List Int} {v : Int} (h : Lab n l) (hv : InR n v) : InR n (cen l v) := h.inr _ (cen_mem h.len hv)
noncomputable def mks (l stops : List Int) : List Int := uq (stops.map (cen l))
def tot (n : Nat) (c l M : List Int) : Int := (((rg n).filter fun v => decide (cen l v ∈ M)).map (cen c)).sum
def join1 (l M : List Int) : List Int := l.map fun x => if x ∈ M then M.headD 0 else x
section
variable {n : Nat} {l c M stops : List Int} {lines : List (List Int × Int)}
theorem e_labs (h : Lab n l) (hs : ∀ s ∈ stops, InR n s) : Ev (cmpW stops (fun _ => pure true) fun x => getW l x) (· = stops.map (cen l)) := Ev.cmp1 fun s hm => e_get h.len (hs s hm)
theorem e_mks (h : Lab n l) (n8 : n ≤ 8) (hs : ∀ s ∈ stops, InR n s) (hl : stops.length ≤ 1000) : Ev (usetW (stops.map (cen l))) (· = mks l stops) := e_uset (n := n) (by rw [List.length_map]; omega) (by omega) fun k hk => by
  obtain ⟨s, h1, rfl⟩ := List.mem_map.mp hk
  exact h.at (hs s h1)
theorem mks_inr (h : Lab n l) (hs : ∀ s ∈ stops, InR n s) : ∀ k ∈ mks l stops, InR n k := fun k hk => by
  obtain ⟨s, h1, rfl⟩ := List.mem_map.mp (uq_mem.mp hk)
  exact h.at (hs s h1)
theorem e_tot (h : Lab n l) (n8 : n ≤ 8) (hc : c.length = n) : Ev (cmpW (rgI 0 (n : Int)) (fun x => do let y ← getW l x; pure (decide (y ∈ M))) fun x => getW c x) (fun x => x.sum = tot n c l M) := by
  refine (Ev.cmp (pc := fun v => decide (cen l v ∈ M)) (pf := cen c) (fun v hv => ?_) fun v hv _ => e_get hc (mem_rg.mp hv)).imp fun x e => by rw [e]; rfl
  exact Ev.det (e_get h.len (mem_rg.mp hv)) (Ev.pure rfl)
theorem headD_at {M : List Int} (h : M ≠ []) : M[0]? = some (M.headD 0) := by cases M with
  | nil => exact absurd rfl h
  | cons x M => rfl
theorem e_join1 : Ev (cmpW l (fun _ => pure true) fun x => if decide (x ∈ M) = true then getW M 0 else pure x) (· = join1 l M) :=
  Ev.cmp1 (pf := fun x => if x ∈ M then M.headD 0 else x) fun x _ => Ev.ite (fun h => by
    have h := of_decide_eq_true h
    rw [if_pos h]
    exact Ev.get (DW.atI_nat (i := 0) (headD_at fun e => by rw [e] at h; cases h))) fun h => by
    rw [if_neg fun z => h (decide_eq_true z)]
    exact Ev.pure rfl
theorem Lab.join (h : Lab n l) (hM : ∀ k ∈ M, InR n k) : Lab n (join1 l M) := ⟨by unfold join1; rw [List.length_map]; exact h.len, fun x hx => by
  obtain ⟨y, hy, rfl⟩ := List.mem_map.mp hx
  by_cases z : y ∈ M
  · show InR n (if y ∈ M then _ else y)
    rw [if_pos z]
    exact hM _ (headD_mem fun e => by rw [e] at z; cases z)
  · show InR n (if y ∈ M then _ else y)
    rw [if_neg z]; exact h.inr y hy⟩
theorem cen_map {f : Int → Int} {v : Int} (hl : l.length = n) (hv : InR n v) : cen (l.map f) v = f (cen l v) := by
  obtain ⟨h0, h1⟩ := hv
  obtain ⟨k, rfl⟩ := Int.eq_ofNat_of_zero_le h0
  have hk : k < l.length := by omega
  show ((l.map f)[k]?).getD 0 = f ((l[k]?).getD 0)
  rw [List.getElem?_map, List.getElem?_eq_getElem hk]; rfl
theorem lab_rg (n : Nat) : Lab n (rg n) := ⟨rg_len n, fun x hx => mem_rg.mp hx⟩
theorem cen_rg {v : Int} (hv : InR n v) : cen (rg n) v = v := by
  obtain ⟨h0, h1⟩ := hv
  obtain ⟨k, rfl⟩ := Int.eq_ofNat_of_zero_le h0
  have hk : k < n := by omega
  show ((rg n)[k]?).getD 0 = _
  rw [rg_eq, List.getElem?_map, List.getElem?_range hk]; rfl
theorem lbl_rg : Lbl n ((rg n).map fun v => [v]) (cen (rg n)) := (lbl_singles n).congr fun v hv => cen_rg hv
theorem Lbl.next {D : List (List Int)} (h : Lbl n D (cen l)) (hl : Lab n l) (hs : ∀ s ∈ stops, InR n s) (h0 : stops ≠ []) : Lbl n (ordD (joinD D stops)) (cen (join1 l (mks l stops))) := by
  have hM : mks l stops ≠ [] := fun e => by
    cases stops with
    | nil => exact h0 rfl
    | cons s st =>
      have : cen l s ∈ mks l (s :: st) := uq_mem.mpr (List.mem_map.mpr ⟨s, List.mem_cons_self, rfl⟩)
      rw [e] at this; cases this
  exact ((h.join hs h0 (fun k => uq_mem) (headD_mem hM)).ord).congr fun v hv => cen_map hl.len hv
/-! the faults of a row -/
def lineAt (lines : List (List Int × Int)) (i : Int) : List Int × Int := (lines[i.toNat]?).getD ([], 0)
open Classical in
noncomputable def whyF (n : Nat) (lines : List (List Int × Int)) (c chosen l : List Int) (i : Int) : Option Str :=
  if ¬InR lines.length i then some ("line" : Str) else if i ∉ chosen then some ("other" : Str) else if (mks l (lineAt lines i).1).length < 2 then some ("one" : Str) else if tot n c l (mks l (lineAt lines i).1) < (lineAt lines i).2 then some ("few" : Str) else none
noncomputable def togF (l party : List Int) : Bool := decide ((uq (party.map (cen l))).length = 1)
noncomputable def rowF (n : Nat) (lines : List (List Int × Int)) (c party chosen : List Int) : List Int → Int → List Int → Option (Int × Str)
  | [], k, l => if togF l party then none else some (k, ("party" : Str))
  | i :: row, k, l => match whyF n lines c chosen l i with
    | some w => some (k, w)
    | none => rowF n lines c party chosen row (k + 1) (join1 l (mks l (lineAt lines i).1))
theorem inr_dec {m : Nat} {i : Int} : Ev (if decide (0 ≤ i) = true then pure (decide (i < (m : Int))) else pure false : W Bool) (fun b => b = true ↔ InR m i) := Ev.ite (fun h => Ev.pure (by
    have h := of_decide_eq_true h
    exact ⟨fun z => ⟨h, of_decide_eq_true z⟩, fun z => decide_eq_true z.2⟩)) fun h => Ev.pure ⟨fun z => (nomatch z), fun z => absurd (decide_eq_true z.1) h⟩
theorem e_line {i : Int} (h : InR lines.length i) : Ev (getW lines i) (· = lineAt lines i) ∧ lineAt lines i ∈ lines := by
  obtain ⟨h0, h1⟩ := h
  obtain ⟨k, rfl⟩ := Int.eq_ofNat_of_zero_le h0
  have hk : k < lines.length := by omega
  have e : lines[k]? = some (lineAt lines (k : Int)) := by
    show _ = some ((lines[k]?).getD ([], 0))
    rw [List.getElem?_eq_getElem hk]; rfl
  exact ⟨Ev.get (DW.atI_nat e), List.mem_of_getElem? e⟩
theorem ltog (h : Lab n l) {party : List Int} (hp : ∀ s ∈ party, InR n s) (hl : party.length ≤ 1000) : Ev (m_law_together (l, party, ())) (· = togF l party) := by
  unfold m_law_together
  simp only [pure_bind, bind_assoc, seqW_bind, seqW_nx, runW_bind, runW_rt, seqW_rt, runW_ite, seqW_ite]
  refine Ev.gd (by omega) (Ev.det (e_labs h hp) (Ev.det (e_lenset (by rw [List.length_map]; omega)) (Ev.rt ?_)))
  unfold togF
  rw [Bool.eq_iff_iff]; simp; omega
theorem rowF_some {party chosen row : List Int} {i k : Int} {w : Str} (h : whyF n lines c chosen l i = some w) : rowF n lines c party chosen (i :: row) k l = some (k, w) := by
  show (match whyF n lines c chosen l i with
    | some w => some (k, w)
    | none => rowF n lines c party chosen row (k + 1) (join1 l (mks l (lineAt lines i).1))) = _
  rw [h]
theorem rowF_none {party chosen row : List Int} {i k : Int} (h : whyF n lines c chosen l i = none) : rowF n lines c party chosen (i :: row) k l = rowF n lines c party chosen row (k + 1) (join1 l (mks l (lineAt lines i).1)) := by
  show (match whyF n lines c chosen l i with
    | some w => some (k, w)
    | none => rowF n lines c party chosen row (k + 1) (join1 l (mks l (lineAt lines i).1))) = _
  rw [h]
theorem why_line {chosen : List Int} {i : Int} (h : ¬InR lines.length i) : whyF n lines c chosen l i = some ("line" : Str) := if_pos h
theorem why_other {chosen : List Int} {i : Int} (h : InR lines.length i) (h1 : i ∉ chosen) : whyF n lines c chosen l i = some ("other" : Str) := by unfold whyF; rw [if_neg (fun z => z h), if_pos h1]
theorem why_in {chosen : List Int} {i : Int} (h : InR lines.length i) (h1 : i ∈ chosen) : whyF n lines c chosen l i = if (mks l (lineAt lines i).1).length < 2 then some ("one" : Str) else if tot n c l (mks l (lineAt lines i).1) < (lineAt lines i).2 then some ("few" : Str) else none := by unfold whyF; rw [if_neg (fun z => z h), if_neg (fun z => z h1)]
theorem at_range {m : Nat} {pre post : List Int} {x : Int} (e : rg m = pre ++ x :: post) : x = ((pre.length : Nat) : Int) ∧ pre.length < m := by
  have hlen : pre.length < m := by have := rg_len m; rw [e] at this; simp at this; omega
  rw [rg_eq] at e
  have h1 : (((List.range m).map fun k => ((k : Nat) : Int))[pre.length]?) = some x := by rw [e]; simp
  rw [List.getElem?_map, List.getElem?_range hlen] at h1
  exact ⟨(Option.some.inj h1).symm, hlen⟩
theorem at_enum {α : Type} {row : List α} {pre post : List (Int × α)} {x : Int × α} (e : enumL row = pre ++ x :: post) : x.1 = ((pre.length : Nat) : Int) ∧ row[pre.length]? = some x.2 := by
  have h1 : (enumL row)[pre.length]? = some x := by rw [e]; simp
  rw [enumL_get] at h1
  cases q : row[pre.length]? with
  | none => rw [q] at h1; cases h1
  | some y => rw [q] at h1; cases h1; exact ⟨rfl, rfl⟩
theorem drop_at {α : Type} {row : List α} {k : Nat} {a : α} (h : row[k]? = some a) : row.drop k = a :: row.drop (k + 1) := by
  obtain ⟨hk, e⟩ := List.getElem?_eq_some_iff.mp h
  rw [List.drop_eq_getElem_cons hk, e]
theorem e_row_law (L : Land n lines c) {party chosen row : List Int} (hp : ∀ s ∈ party, InR n s) (hpl : party.length ≤ 1000) (hr : row.length ≤ 1000) : Ev (m_law_row_fault ((n : Int), lines, c, party, chosen, row, ())) (· = rowF n lines c party chosen row 0 (rg n)) := by
  have n8 := L.n8
  have gn : -2 ^ 62 ≤ (n : Int) ∧ (n : Int) < 2 ^ 62 := ⟨by omega, by omega⟩
  have gl : (rgI 0 (n : Int)).length < 100000 := by have := rg_len n; unfold rg at this; omega
  unfold m_law_row_fault
  simp only [pure_bind, bind_assoc, seqW_bind, seqW_nx, runW_bind, runW_rt, seqW_rt, runW_ite, seqW_ite]
  refine Ev.gd (by unfold RgOk; exact ⟨by omega, by omega, by omega, by omega⟩) (Ev.gd ⟨by omega, by omega⟩ ?_)
  refine Ev.forS (fun pre s => Lab n s.1 ∧ rowF n lines c party chosen (row.drop pre.length) pre.length s.1 = rowF n lines c party chosen row 0 (rg n)) ⟨lab_rg n, rfl⟩ (fun pre x post s e i => ?_) (fun s i => ?_)
  · obtain ⟨hl, ih⟩ := i
    obtain ⟨rfl, hlen⟩ := at_range e
    have hat := List.getElem?_eq_getElem hlen
    rw [drop_at hat] at ih
    refine Ev.det (Ev.get (DW.atI_nat hat)) ?_
    generalize row[pre.length] = a at ih
    refine inr_dec.bind fun b hb => Ev.ite (fun h => ?_) fun h => ?_
    · have hn : ¬InR lines.length a := fun z => by rw [hb.mpr z] at h; cases h
      exact Ev.pure (by rw [← ih, rowF_some (why_line hn)])
    · have hi : InR lines.length a := hb.mp (by simpa using h)
      refine Ev.ite (fun h => ?_) fun h => ?_
      · exact Ev.pure (by rw [← ih, rowF_some (why_other hi (by simpa using h))])
      · have hc : a ∈ chosen := by simpa using h
        have wi := why_in (n := n) (c := c) (l := s.1) hi hc
        obtain ⟨el, ml⟩ := e_line hi
        obtain ⟨s1, s2, s3⟩ := L.st _ ml
        refine Ev.det el (Ev.gd (by omega) (Ev.det (e_labs hl s1) (Ev.det (e_mks hl n8 s1 (by omega)) (Ev.ite (fun h => ?_) fun h => ?_))))
        · have h : (mks s.1 (lineAt lines a).1).length < 2 := by have := of_decide_eq_true h; omega
          exact Ev.pure (by rw [← ih, rowF_some (by rw [wi, if_pos h])])
        · have h : ¬(mks s.1 (lineAt lines a).1).length < 2 := fun z => h (decide_eq_true (by omega))
          rw [if_neg h] at wi
          refine Ev.gd gn (Ev.gd gl ((e_tot hl n8 L.cl).bind fun x hx => Ev.det el (Ev.ite (fun h => ?_) fun h => ?_)))
          · have h := of_decide_eq_true h
            rw [hx] at h
            exact Ev.pure (by rw [← ih, rowF_some (by rw [wi, if_pos h])])
          · have h : ¬tot n c s.1 (mks s.1 (lineAt lines a).1) < (lineAt lines a).2 := fun z => h (decide_eq_true (by rw [hx]; exact z))
            rw [if_neg h] at wi
            refine Ev.gd (by rw [hl.len]; omega) (Ev.det e_join1 (Ev.pure ⟨hl.join (mks_inr hl s1), ?_⟩))
            rw [← ih, rowF_none wi, List.length_append, List.length_singleton]
            push_cast; rfl
  · obtain ⟨hl, ih⟩ := i
    have e0 : row.drop (rgI 0 ((row.length : Nat) : Int)).length = [] := List.drop_eq_nil_of_le (by have := rg_len row.length; unfold rg at this; omega)
    have e1 : (rgI 0 ((row.length : Nat) : Int)).length = row.length := rg_len row.length
    rw [e0, e1] at ih
    simp only [runW_bind, runW_ite, runW_rt]
    refine Ev.det (ltog hl hp hpl) (Ev.ite (fun h => Ev.rt ?_) fun h => Ev.rt ?_)
    · rw [← ih]; show _ = if togF s.1 party = true then none else _
      rw [if_neg (by simpa using h)]
    · rw [← ih]; show _ = if togF s.1 party = true then none else _
      rw [if_pos (by simpa using h)]
/-! the program's row -/
theorem e_jo {D : List (List Int)} (L : Land n lines c) (hl : Lab n l) (h : Lbl n D (cen l)) {chosen : List Int} {i : Int} (hw : InR lines.length i → i ∈ chosen) : Ev (m_fault_of_join (((n : Int), lines), c, D, i, ())) (· = whyF n lines c chosen l i) := by
  have n8 := L.n8
  unfold m_fault_of_join
  simp only [pure_bind, bind_assoc, seqW_bind, seqW_nx, runW_bind, runW_rt, seqW_rt, runW_ite, seqW_ite]
  refine inr_dec.bind fun b3 hb3 => Ev.ite (fun hy => ?_) fun hy => ?_
  · exact Ev.rt (why_line fun z => by rw [hb3.mpr z] at hy; cases hy).symm
  · have hi : InR lines.length i := hb3.mp (by simpa using hy)
    have hc : i ∈ chosen := hw hi
    have wi := why_in (n := n) (c := c) (l := l) hi hc
    obtain ⟨el, ml⟩ := e_line hi
    obtain ⟨s1, s2, s3⟩ := L.st _ ml
    have sm := h.sm n8
    have cn := h.count s1 (sl_nd (uq_sl ((lineAt lines i).1.map (cen l)))) fun k => uq_mem
    have hd : ((tch D (lineAt lines i).1).flatten.map (cen c)).sum = tot n c l (mks l (lineAt lines i).1) := h.heads s1 (L := mks l (lineAt lines i).1) (fun k => uq_mem) (cen c)
    have tl := tix_len_le (D := D) (stops := (lineAt lines i).1)
    have hsm := sm.l
    refine Ev.det el (Ev.det (e_touched sm (by omega)) (Ev.gd (by omega) (Ev.det (e_places sm) (Ev.ite (fun h2 => ?_) fun h2 => ?_))))
    · have h2 : (mks l (lineAt lines i).1).length < 2 := by have := of_decide_eq_true h2; unfold mks; omega
      exact Ev.rt (by rw [wi, if_pos h2])
    · have h2 : ¬(mks l (lineAt lines i).1).length < 2 := fun z => h2 (decide_eq_true (by unfold mks at z; omega))
      rw [if_neg h2] at wi
      have fl : (tch D (lineAt lines i).1).flatten.length ≤ n := by
        have := ((List.perm_ext_iff_of_nodup (nd_filter (hit (lineAt lines i).1) h.nd) ((sl_nd (rg_sl n)).filter fun v => decide (v ∈ (tch D (lineAt lines i).1).flatten))).mpr fun v => by
          rw [List.mem_filter, mem_rg, decide_eq_true_iff]
          exact ⟨fun z => ⟨by
            obtain ⟨b, hb, hv⟩ := List.mem_flatten.mp z
            exact h.inr (List.mem_filter.mp hb).1 hv, z⟩, fun z => z.2⟩).length_eq
        have h3 := List.length_filter_le (fun v => decide (v ∈ (tch D (lineAt lines i).1).flatten)) (rg n)
        rw [rg_len] at h3
        show ((D.filter (hit (lineAt lines i).1)).flatten).length ≤ n
        omega
      refine Ev.det (e_heads L.cl (by omega) fun v hv => by
        obtain ⟨b, hb, hv⟩ := List.mem_flatten.mp hv
        exact h.inr (List.mem_filter.mp hb).1 hv) ?_
      rw [hd]
      refine Ev.ite (fun h3 => Ev.rt ?_) fun h3 => Ev.rt ?_
      · rw [wi, if_pos (of_decide_eq_true h3)]
      · rw [wi, if_neg fun z => h3 (decide_eq_true z)]
theorem e_why {D : List (List Int)} (L : Land n lines c) (hl : Lab n l) (h : Lbl n D (cen l)) {chosen : List Int} {i : Int} : Ev (m_fault_of_member (((n : Int), lines), c, D, chosen, i, ())) (· = whyF n lines c chosen l i) := by
  have n8 := L.n8
  unfold m_fault_of_member
  simp only [pure_bind, bind_assoc, seqW_bind, seqW_nx, runW_bind, runW_rt, seqW_rt, runW_ite, seqW_ite]
  refine inr_dec.bind fun b hb => ?_
  have d2 : Ev (if b = true then pure (!decide (i ∈ chosen)) else pure false : W Bool) (fun z => z = true ↔ InR lines.length i ∧ i ∉ chosen) := Ev.ite (fun hz => Ev.pure ⟨fun y => ⟨hb.mp hz, by simpa using y⟩, fun y => by simpa using y.2⟩) fun hz => Ev.pure ⟨fun y => (nomatch y), fun y => absurd (hb.mpr y.1) hz⟩
  refine d2.bind fun b2 hb2 => Ev.ite (fun hz => ?_) fun hz => ?_
  · obtain ⟨h1, h2⟩ := hb2.mp hz
    exact Ev.rt (why_other h1 h2).symm
  · exact Ev.det (e_jo L hl h fun hi => Classical.byContradiction fun z => hz (hb2.mpr ⟨hi, z⟩)) (Ev.rt rfl)
theorem e_row_prog (L : Land n lines c) {party chosen row : List Int} (hp : ∀ s ∈ party, InR n s) (hpl : party.length ≤ 1000) (hr : row.length ≤ 1000) : Ev (m_fault_of_row (((n : Int), lines), c, party, chosen, row, ())) (· = rowF n lines c party chosen row 0 (rg n)) := by
  have n8 := L.n8
  unfold m_fault_of_row
  simp only [pure_bind, bind_assoc, seqW_bind, seqW_nx, runW_bind, runW_rt, seqW_rt, runW_ite, seqW_ite]
  refine Ev.det (e_singles n8) ?_
  refine Ev.forS (fun pre s => ∃ l, Lab n l ∧ Lbl n s.1 (cen l) ∧ rowF n lines c party chosen (row.drop pre.length) pre.length l = rowF n lines c party chosen row 0 (rg n)) ⟨rg n, lab_rg n, lbl_rg, rfl⟩ (fun pre x post s e i => ?_) (fun s i => ?_)
  · obtain ⟨l, hl, hb, ih⟩ := i
    obtain ⟨x1, hat⟩ := at_enum e
    obtain ⟨xi, a⟩ := x
    have x1 : xi = ((pre.length : Nat) : Int) := x1
    subst x1
    rw [drop_at hat] at ih
    have ih : rowF n lines c party chosen (a :: row.drop (pre.length + 1)) pre.length l = _ := ih
    refine Ev.det (e_why L hl hb) (Ev.ite (fun h => ?_) fun h => ?_)
    · cases q : whyF n lines c chosen l a with
      | none => rw [q] at h; cases h
      | some w => exact Ev.det (v := w) (fun P z => ⟨w, rfl, z w rfl⟩) (Ev.pure (by rw [← ih, rowF_some q]))
    · have q : whyF n lines c chosen l a = none := by
        cases q : whyF n lines c chosen l a with
        | none => rfl
        | some w => rw [q] at h; exact absurd rfl h
      have hi : InR lines.length a := Classical.byContradiction fun z => by rw [why_line z] at q; cases q
      obtain ⟨el, ml⟩ := e_line hi
      obtain ⟨s1, s2, s3⟩ := L.st _ ml
      refine Ev.det el (Ev.det (e_touched (hb.sm n8) (by show (lineAt lines a).1.length ≤ _; omega)) (Ev.det (e_join hb n8) (Ev.pure ⟨_, hl.join (mks_inr hl s1), hb.next hl s1 s2, ?_⟩)))
      rw [← ih, rowF_none q, List.length_append, List.length_singleton]
      push_cast; rfl
  · obtain ⟨l, hl, hb, ih⟩ := i
    have e0 : row.drop (enumL row).length = [] := List.drop_eq_nil_of_le (by rw [enumL_len]; exact Nat.le_refl _)
    rw [e0, enumL_len] at ih
    simp only [runW_bind, runW_ite, runW_rt]
    refine Ev.det (e_together hb n8 hp hpl) (Ev.ite (fun h => Ev.rt ?_) fun h => Ev.rt ?_)
    · rw [← ih]; show _ = if togF l party = true then none else _
      rw [if_neg (by simpa [togF] using h)]
    · rw [← ih]; show _ = if togF l party = true then none else _
      rw [if_pos (by simpa [togF] using h)]
end
end Cty
namespace Cty
open PySem L2 PL DW
/-! divisions judged -/
theorem perm_full : ∀ (a b : List Int), a.Nodup → (∀ x ∈ a, x ∈ b) → b.length ≤ a.length → a.Perm b
  | [], b, _, _, h => by
    have : b = [] := List.length_eq_zero_iff.mp (by simpa using h)
    rw [this]
  | x :: a, b, nd, h, hl => by
    rw [List.nodup_cons] at nd
    have h1 := h x List.mem_cons_self
    have p := List.perm_cons_erase h1
    have q := perm_full a (b.erase x) nd.2 (fun y hy => (List.mem_erase_of_ne (fun e => nd.1 (by rw [← e]; exact hy))).mpr (h y (List.mem_cons_of_mem _ hy))) (by rw [List.length_erase_of_mem h1]; rw [List.length_cons] at hl; omega)
    exact (q.cons x).trans p.symm
structure IsDiv (n : Nat) (D : List (List Int)) : Prop where
  ne : ∀ b ∈ D, b ≠ []
  fl : srtI D.flatten = rg n
  od : D = srtE (eL eI) (D.map srtI)
section
variable {n : Nat} {D : List (List Int)}
theorem IsDiv.perm (h : IsDiv n D) : D.flatten.Perm (rg n) := by rw [← h.fl]; exact (srtI_perm _).symm
theorem ordD_ne {b : List Int} (h : b ∈ ordD D) : b ≠ [] := by
  unfold ordD at h
  obtain ⟨b', h1, rfl⟩ := List.mem_map.mp ((srtE_permL _).mem_iff.mp h)
  have h2 := of_decide_eq_true (List.mem_filter.mp h1).2
  intro z
  have := (srtI_perm b').length_eq
  rw [z] at this
  simp at this; omega
theorem ordD_full (h : ∀ b ∈ D, b ≠ []) : ordD D = srtE (eL eI) (D.map srtI) := by
  unfold ordD
  rw [List.filter_eq_self.mpr fun b hb => decide_eq_true (List.length_pos_iff.mpr (h b hb))]
theorem e_is_div (n8 : n ≤ 8) (h : Sm D) : Ev (m_is_division ((n : Int), D, ())) (fun b => b = true ↔ IsDiv n D) := by
  have hf := h.f
  have hl := h.l
  unfold m_is_division m_tidy m_tidyB m_tidyC m_tidyD m_tidy_0 m_tidy_1 m_tidy_2 m_tidy_3 m_tidy_4
  simp only [pure_bind, bind_assoc]
  refine Ev.det (v := D.flatten) ((Ev.cmp2c (p0 := fun _ => true) (pg := fun b => b) (pf := fun _ v => v) (fun _ _ => Ev.pure rfl) (fun _ _ _ => Ev.pure rfl) (fun _ _ _ _ _ => Ev.pure rfl) (by rw [filt_true]; simp only [List.map_id']; rw [flat_id, List.length_nil]; omega)).imp fun v e => by rw [e, filt_true]; simp only [List.map_id']; rw [flat_id, List.nil_append]) ?_
  refine Ev.gd (by omega) (Ev.bind (R1 := fun x => x.any id = true ↔ ∃ v ∈ D.flatten, ¬InR n v) ?_ fun x hx => ?_)
  · have : ∀ l : List Int, Ev (cmpW l (fun _ => pure true) fun x4 => do
            let x8 ← (if decide (0 ≤ x4) = true then pure (decide (x4 < (n : Int))) else pure false : W Bool)
            pure !x8 : W (List Bool)) (fun x => x.any id = true ↔ ∃ v ∈ l, ¬InR n v) := by
      intro l
      induction l with
      | nil => exact Ev.pure (by simp)
      | cons y l ih =>
        refine Ev.bind (Ev.pure (R := fun b => b = true) rfl) fun b hb => ?_
        rw [if_pos hb]
        refine Ev.bind (R1 := fun z => z = true ↔ ¬InR n y) (inr_dec.bind fun b hb => Ev.pure ?_) fun z hz => ih.bind fun zs hzs => Ev.pure ?_
        · rw [Bool.not_eq_true', ← Bool.not_eq_true, hb]
        · rw [List.any_cons, Bool.or_eq_true, id, hz, hzs]
          simp
    exact this _
  · have goF : (∃ v ∈ D.flatten, ¬InR n v) → ¬IsDiv n D := fun ⟨v, h1, h2⟩ d => h2 (mem_rg.mp (d.perm.mem_iff.mp h1))
    refine Ev.bind (R1 := fun o : Option (List (List Int)) => (o = none → ¬IsDiv n D) ∧ ∀ l, o = some l → (l = D ↔ IsDiv n D)) ?_ fun o ho => ?_
    · refine Ev.ite (fun hz => Ev.pure ⟨fun _ => goF (hx.mp hz), fun l e => (nomatch e)⟩) fun hz => ?_
      have hin : ∀ v ∈ D.flatten, InR n v := fun v hv => Classical.byContradiction fun z => hz (hx.mpr ⟨v, hv, z⟩)
      refine Ev.det (e_lenset (by omega)) (Ev.ite (fun h2 => Ev.pure ⟨fun _ d => ?_, fun l e => (nomatch e)⟩) fun h2 => Ev.ite (fun h3 => Ev.pure ⟨fun _ d => ?_, fun l e => (nomatch e)⟩) fun h3 => Ev.det (e_ordered (by omega)) (Ev.pure ⟨fun e => (nomatch e), fun l e => ?_⟩))
      · have h2 := of_decide_eq_true h2
        have := uq_len (d.perm.nodup_iff.mpr (sl_nd (rg_sl n))) (l := D.flatten) fun k => Iff.rfl
        omega
      · have h3 := of_decide_eq_true h3
        have := d.perm.length_eq
        rw [rg_len] at this; omega
      · cases e
        have h2 : ¬(uq D.flatten).length < D.flatten.length := fun z => h2 (decide_eq_true (by omega))
        have h3 : ¬D.flatten.length < n := fun z => h3 (decide_eq_true (by omega))
        have p1 : (uq D.flatten).Perm D.flatten := perm_full _ _ (sl_nd (uq_sl _)) (fun x hx => uq_mem.mp hx) (by omega)
        have p2 : (uq D.flatten).Perm (rg n) := perm_full _ _ (sl_nd (uq_sl _)) (fun x hx => mem_rg.mpr (hin x (uq_mem.mp hx))) (by rw [rg_len]; omega)
        have pf : D.flatten.Perm (rg n) := p1.symm.trans p2
        have sf : srtI D.flatten = rg n := (srtI_uniq pf.symm ((rg_sl n).imp fun h => by omega)).symm
        constructor
        · intro e
          have ne : ∀ b ∈ D, b ≠ [] := fun b hb => ordD_ne (D := D) (by rw [e]; exact hb)
          exact ⟨ne, sf, by rw [← ordD_full ne]; exact e.symm⟩
        · intro d
          rw [ordD_full d.ne]; exact d.od.symm
    · cases o with
      | none => exact Ev.pure ⟨fun z => (nomatch z), fun z => absurd z (ho.1 rfl)⟩
      | some l => exact Ev.pure (by rw [decide_eq_true_iff]; exact ho.2 l rfl)
theorem e_law_is_div (n8 : n ≤ 8) (h : Sm D) : Ev (m_law_is_division ((n : Int), D, ())) (fun b => b = true ↔ IsDiv n D) := by
  have hf := h.f
  have hl := h.l
  unfold m_law_is_division
  simp only [pure_bind, bind_assoc, seqW_bind, seqW_nx, runW_bind, runW_rt, seqW_rt, runW_ite, seqW_ite]
  refine Ev.forS (fun pre s => s.1 = pre.flatten ∧ ∀ b ∈ pre, b ≠ []) ⟨rfl, fun b hb => (by cases hb)⟩ (fun pre b post s e i => ?_) (fun s i => ?_)
  · obtain ⟨i1, i2⟩ := i
    have hb : b ∈ D := by rw [e]; simp
    have lp : pre.flatten.length + b.length ≤ D.flatten.length := by rw [e, List.flatten_append, List.length_append, List.flatten_cons, List.length_append]; omega
    refine Ev.ite (fun hz => Ev.pure ⟨fun z => (nomatch z), fun d => ?_⟩) fun hz => Ev.gd (by rw [i1]; omega) (Ev.pure ⟨by rw [i1, List.flatten_append, List.flatten_cons]; simp, fun c hc => ?_⟩)
    · have := of_decide_eq_true hz
      exact absurd (List.length_eq_zero_iff.mp (by omega)) (d.ne b hb)
    · rcases List.mem_append.mp hc with hc | hc
      · exact i2 c hc
      · rw [List.mem_singleton.mp hc]
        intro z
        exact hz (decide_eq_true (by rw [z]; rfl))
  · obtain ⟨i1, i2⟩ := i
    simp only [runW_bind, runW_ite, runW_rt]
    refine Ev.gd (by unfold RgOk; exact ⟨by omega, by omega, by omega, by omega⟩) (Ev.bind (R1 := fun b => b = true ↔ IsDiv n D) ?_ fun b hb => Ev.rt hb)
    rw [i1]
    refine Ev.ite (fun hz => ?_) fun hz => Ev.pure ⟨fun z => (nomatch z), fun d => absurd (decide_eq_true d.fl) hz⟩
    refine Ev.gd (by omega) (Ev.det (Ev.cmp1 (pf := srtI) fun _ _ => Ev.pure rfl) (Ev.pure ?_))
    rw [decide_eq_true_iff]
    exact ⟨fun z => ⟨i2, of_decide_eq_true hz, z⟩, fun d => d.od⟩
theorem e_put {α : Type} {xs : List α} {n : Nat} {v : Int} {x : α} (h : xs.length = n) (hv : InR n v) : Ev (putW xs v x) (· = xs.set v.toNat x) := fun P q => by
  obtain ⟨h0, h1⟩ := hv
  refine ⟨v.toNat, ?_, q _ rfl⟩
  unfold ixN
  rw [if_pos h0, if_pos (by omega)]
theorem cen_set {m : List Int} {u v k : Int} (hm : m.length = n) (hu : InR n u) (hv : InR n v) : cen (m.set v.toNat k) u = if u = v then k else cen m u := by
  obtain ⟨a0, a1⟩ := hu
  obtain ⟨b0, b1⟩ := hv
  unfold cen
  by_cases e : u = v
  · subst e; rw [if_pos rfl, List.getElem?_set_self (by omega)]; rfl
  · rw [if_neg e, List.getElem?_set_ne (by omega)]
theorem e_marks (n8 : n ≤ 8) (d : IsDiv n D) : Ev (m_law_marks ((n : Int), D, ())) (fun m => Lab n m ∧ Lbl n D (cen m)) := by
  have fl : D.flatten.length = n := by have := d.perm.length_eq; rw [rg_len] at this; exact this
  have dl : D.length ≤ n := by have := ne_len d.ne; omega
  have nd : D.flatten.Nodup := d.perm.nodup_iff.mpr (sl_nd (rg_sl n))
  have inr : ∀ b ∈ D, ∀ v ∈ b, InR n v := fun b hb v hv => mem_rg.mp (d.perm.mem_iff.mp (List.mem_flatten.mpr ⟨b, hb, hv⟩))
  have dis : ∀ (i j : Nat) b b', D[i]? = some b → D[j]? = some b' → ∀ v, v ∈ b → v ∈ b' → i = j := fun i j b b' h1 h2 v v1 v2 => by
    obtain ⟨hi, e1⟩ := List.getElem?_eq_some_iff.mp h1
    obtain ⟨hj, e2⟩ := List.getElem?_eq_some_iff.mp h2
    have p := List.pairwise_iff_getElem.mp (nd_parts nd).2
    rcases Nat.lt_trichotomy i j with z | z | z
    · exact absurd rfl (p i j hi hj z v (by rw [e1]; exact v1) v (by rw [e2]; exact v2))
    · exact z
    · exact absurd rfl (p j i hj hi z v (by rw [e2]; exact v2) v (by rw [e1]; exact v1))
  unfold m_law_marks
  simp only [pure_bind, bind_assoc, seqW_bind, seqW_nx, runW_bind, runW_rt, seqW_rt, runW_ite, seqW_ite]
  refine Ev.gd ⟨by omega, by omega⟩ (Ev.gd (by have := rg_len n; unfold rg at this; omega) (Ev.det (Ev.cmp1 (pf := fun _ => (0 : Int)) fun _ _ => Ev.pure rfl) (Ev.gd ⟨by omega, by omega⟩ ?_)))
  refine Ev.forS (fun pre s => s.1.length = n ∧ (∀ x ∈ s.1, InR n x ∨ x = 0) ∧ ∀ (j : Nat) b, j < pre.length → D[j]? = some b → ∀ v ∈ b, cen s.1 v = j) ⟨by show ((rg n).map _).length = n; rw [List.length_map, rg_len], fun x hx => .inr (by obtain ⟨_, _, rfl⟩ := List.mem_map.mp hx; rfl), fun j b hj => absurd hj (Nat.not_lt_zero _)⟩ (fun pre x post s e i => ?_) (fun s i => ?_)
  · obtain ⟨i1, i2, i3⟩ := i
    obtain ⟨rfl, hlen⟩ := at_range (m := D.length) e
    have hat := List.getElem?_eq_getElem hlen
    refine Ev.det (Ev.get (DW.atI_nat hat)) ?_
    generalize hB : D[pre.length] = B at hat
    have hBD : B ∈ D := List.mem_of_getElem? hat
    refine Ev.seqS ?_
    refine Ev.for_ (fun pr s' => s'.1.length = n ∧ (∀ x ∈ s'.1, InR n x ∨ x = 0) ∧ (∀ (j : Nat) b, j < pre.length → D[j]? = some b → ∀ v ∈ b, cen s'.1 v = j) ∧ ∀ v ∈ pr, cen s'.1 v = pre.length) ⟨i1, i2, i3, fun v hv => (by cases hv)⟩ (fun pr v po s' e' i' => ?_) fun s' i' => ?_
    · obtain ⟨j1, j2, j3, j4⟩ := i'
      have hv : v ∈ B := by rw [e']; simp
      have iv := inr B hBD v hv
      refine Ev.det (e_put j1 iv) (Ev.pure ⟨by rw [List.length_set]; exact j1, fun x hx => ?_, fun j b hj hb u hu => ?_, fun u hu => ?_⟩)
      · rcases List.mem_or_eq_of_mem_set hx with hx | rfl
        · exact j2 x hx
        · exact .inl ⟨by omega, by omega⟩
      · rw [cen_set j1 (inr b (List.mem_of_getElem? hb) u hu) iv, if_neg fun z => ?_]
        · exact j3 j b hj hb u hu
        · subst z
          have := dis _ _ _ _ hb hat u hu hv
          omega
      · rcases List.mem_append.mp hu with hu | hu
        · rw [cen_set j1 (inr B hBD u (by rw [e']; exact List.mem_append_left _ hu)) iv]
          split
          · rfl
          · exact j4 u hu
        · rw [List.mem_singleton.mp hu, cen_set j1 iv iv, if_pos rfl]
    · obtain ⟨j1, j2, j3, j4⟩ := i'
      refine Ev.pure ⟨j1, j2, fun j b hj hb v hv => ?_⟩
      rw [List.length_append, List.length_singleton] at hj
      by_cases z : j < pre.length
      · exact j3 j b z hb v hv
      · have : j = pre.length := by omega
        subst this
        rw [hat] at hb; cases hb
        exact j4 v hv
  · obtain ⟨i1, i2, i3⟩ := i
    have el : (rgI 0 ((D.length : Nat) : Int)).length = D.length := rg_len D.length
    rw [el] at i3
    have at_ : ∀ (j : Nat) b, D[j]? = some b → ∀ v ∈ b, cen s.1 v = j := fun j b hb v hv => i3 j b (List.getElem?_eq_some_iff.mp hb).1 hb v hv
    refine Ev.rt ⟨⟨i1, fun x hx => ?_⟩, nd, fun v => by rw [d.perm.mem_iff, mem_rg], fun b hb u hu v iv => ?_, d.ne⟩
    · rcases i2 x hx with z | z
      · exact z
      · subst z
        have : 0 < s.1.length := List.length_pos_of_mem hx
        exact ⟨Int.le_refl _, by omega⟩
    · obtain ⟨k, hk⟩ := List.getElem?_of_mem hb
      rw [at_ k b hk u hu]
      constructor
      · intro hv; exact at_ k b hk v hv
      · intro e
        have : v ∈ D.flatten := d.perm.mem_iff.mpr (mem_rg.mpr iv)
        obtain ⟨b', hb', hv'⟩ := List.mem_flatten.mp this
        obtain ⟨k', hk'⟩ := List.getElem?_of_mem hb'
        have := at_ k' b' hk' v hv'
        have e2 : k = k' := by omega
        subst e2
        rw [hk] at hk'; cases hk'
        exact hv'
end
end Cty
namespace Cty
open PySem L2 PL DW
/-! the faults of a division -/
section
variable {n : Nat} {c : List Int} {lines : List (List Int × Int)} {D : List (List Int)}
def leakD (lines : List (List Int × Int)) (c : List Int) (D : List (List Int)) (i : Int) : Bool := decide (1 < (tch D (lineAt lines i).1).length ∧ (lineAt lines i).2 ≤ ((tch D (lineAt lines i).1).flatten.map (cen c)).sum)
def openD (lines : List (List Int × Int)) (c party : List Int) (D : List (List Int)) : List Int → Option (Int × Str)
  | [] => if (tch D party).length = 1 then some (0, ("party" : Str)) else none
  | i :: r => if leakD lines c D i = true then some (i, ("open" : Str)) else openD lines c party D r
open Classical in
noncomputable def splitF (n : Nat) (lines : List (List Int × Int)) (c party chosen : List Int) (D : List (List Int)) : Option (Int × Str) := if IsDiv n D then openD lines c party D chosen else some (0, ("division" : Str))
theorem open_yes {party r : List Int} {i : Int} (h : leakD lines c D i = true) : openD lines c party D (i :: r) = some (i, ("open" : Str)) := if_pos h
theorem open_no {party r : List Int} {i : Int} (h : ¬leakD lines c D i = true) : openD lines c party D (i :: r) = openD lines c party D r := if_neg h
theorem tch_flat (s : List Int) : (tch D s).flatten.length ≤ D.flatten.length := by
  unfold tch
  rw [List.length_flatten, List.length_flatten]
  induction D with
  | nil => exact Nat.le_refl _
  | cons x E ih =>
    by_cases z : hit s x = true
    · rw [List.filter_cons_of_pos z, List.map_cons, List.map_cons, List.sum_cons, List.sum_cons]; omega
    · rw [List.filter_cons_of_neg z, List.map_cons, List.sum_cons]; omega
theorem e_leaks (L : Land n lines c) (sm : Sm D) (d : IsDiv n D) {i : Int} (hi : InR lines.length i) : Ev (m_leaks (((n : Int), lines), c, D, i, ())) (· = leakD lines c D i) := by
  obtain ⟨el, ml⟩ := e_line hi
  obtain ⟨s1, s2, s3⟩ := L.st _ ml
  have n8 := L.n8
  have tl := tix_len_le (D := D) (stops := (lineAt lines i).1)
  have hsm := sm.l
  have hf := sm.f
  have tf := tch_flat (D := D) (lineAt lines i).1
  unfold m_leaks
  simp only [pure_bind, bind_assoc, seqW_bind, seqW_nx, runW_bind, runW_rt, seqW_rt, runW_ite, seqW_ite]
  refine Ev.det el (Ev.det (e_touched sm (by omega)) (Ev.gd (by omega) (Ev.det (e_places sm) (Ev.bind (R1 := fun b => b = leakD lines c D i) ?_ fun b hb => Ev.rt hb))))
  refine Ev.ite (fun h => ?_) fun h => Ev.pure ?_
  · refine Ev.det (e_heads L.cl (by omega) fun v hv => ?_) (Ev.pure ?_)
    · obtain ⟨b, hb, hv⟩ := List.mem_flatten.mp hv
      exact mem_rg.mp (d.perm.mem_iff.mp (List.mem_flatten.mpr ⟨b, (List.mem_filter.mp hb).1, hv⟩))
    · have h := of_decide_eq_true h
      unfold leakD
      rw [Bool.eq_iff_iff, decide_eq_true_iff, decide_eq_true_iff]
      exact ⟨fun z => ⟨by omega, z⟩, fun z => z.2⟩
  · unfold leakD
    exact (decide_eq_false fun z => h (decide_eq_true (by have := z.1; omega))).symm
theorem e_tog {party : List Int} (sm : Sm D) (hl : party.length ≤ 1000) : Ev (m_is_together (D, party, ())) (· = decide ((tch D party).length = 1)) := by
  unfold m_is_together
  simp only [pure_bind, bind_assoc, seqW_bind, seqW_nx, runW_bind, runW_rt, seqW_rt, runW_ite, seqW_ite]
  refine Ev.det (e_touched sm hl) (Ev.rt ?_)
  rw [tix_len, Bool.eq_iff_iff]; simp; omega
theorem e_split_prog (L : Land n lines c) (sm : Sm D) {party chosen : List Int} (hpl : party.length ≤ 1000) (hc : ∀ i ∈ chosen, InR lines.length i) : Ev (m_fault_of_split (((n : Int), lines), c, party, chosen, D, ())) (· = splitF n lines c party chosen D) := by
  unfold m_fault_of_split splitF
  simp only [pure_bind, bind_assoc, seqW_bind, seqW_nx, runW_bind, runW_rt, seqW_rt, runW_ite, seqW_ite]
  refine (e_is_div L.n8 sm).bind fun b hb => Ev.ite (fun h => Ev.rt ?_) fun h => ?_
  · rw [if_neg fun z => by rw [hb.mpr z] at h; cases h]
  · have d : IsDiv n D := hb.mp (by simpa using h)
    rw [if_pos d]
    refine Ev.forS (fun pre s => ∀ post, chosen = pre ++ post → openD lines c party D post = openD lines c party D chosen) (fun post e => by rw [e]; rfl) (fun pre x post s e i => ?_) (fun s i => ?_)
    · have i := i _ e
      refine Ev.det (e_leaks L sm d (hc x (by rw [e]; simp))) (Ev.ite (fun h => Ev.pure ?_) fun h => Ev.pure fun post' e' => ?_)
      · rw [← i, open_yes h]
      · have : post' = post := by
          have e2 : pre ++ x :: post = pre ++ x :: post' := by rw [← e, e', List.append_assoc]; rfl
          have := List.append_cancel_left e2
          injection this with _ q
          exact q.symm
        rw [this, ← i, open_no h]
    · have i := i [] (by rw [List.append_nil])
      simp only [runW_bind, runW_ite, runW_rt]
      refine Ev.det (e_tog sm hpl) (Ev.ite (fun h => Ev.rt ?_) fun h => Ev.rt ?_)
      · rw [← i]; show _ = if _ then _ else _
        rw [if_pos (of_decide_eq_true h)]
      · rw [← i]; show _ = if _ then _ else _
        rw [if_neg fun z => h (decide_eq_true z)]
theorem e_split_law (L : Land n lines c) (sm : Sm D) {party chosen : List Int} (hp : ∀ s ∈ party, InR n s) (hpl : party.length ≤ 1000) (hc : ∀ i ∈ chosen, InR lines.length i) : Ev (m_law_split_fault ((n : Int), lines, c, party, chosen, D, ())) (· = splitF n lines c party chosen D) := by
  have n8 := L.n8
  have gn : -2 ^ 62 ≤ (n : Int) ∧ (n : Int) < 2 ^ 62 := ⟨by omega, by omega⟩
  have gl : (rgI 0 (n : Int)).length < 100000 := by have := rg_len n; unfold rg at this; omega
  unfold m_law_split_fault splitF
  simp only [pure_bind, bind_assoc, seqW_bind, seqW_nx, runW_bind, runW_rt, seqW_rt, runW_ite, seqW_ite]
  refine (e_law_is_div n8 sm).bind fun b hb => Ev.ite (fun h => Ev.rt ?_) fun h => ?_
  · rw [if_neg fun z => by rw [hb.mpr z] at h; cases h]
  · have d : IsDiv n D := hb.mp (by simpa using h)
    rw [if_pos d]
    refine (e_marks n8 d).bind fun m hm => ?_
    obtain ⟨hl, hD⟩ := hm
    refine Ev.forS (fun pre s => ∀ post, chosen = pre ++ post → openD lines c party D post = openD lines c party D chosen) (fun post e => by rw [e]; rfl) (fun pre x post s e i => ?_) (fun s i => ?_)
    · have i := i _ e
      have hi := hc x (by rw [e]; simp)
      obtain ⟨el, ml⟩ := e_line hi
      obtain ⟨s1, s2, s3⟩ := L.st _ ml
      have cn := hD.count s1 (sl_nd (uq_sl ((lineAt lines x).1.map (cen m)))) fun k => uq_mem
      have hd : ((tch D (lineAt lines x).1).flatten.map (cen c)).sum = tot n c m (mks m (lineAt lines x).1) := hD.heads s1 (L := mks m (lineAt lines x).1) (fun k => uq_mem) (cen c)
      refine Ev.det el (Ev.gd (by omega) (Ev.det (e_labs hl s1) (Ev.det (e_mks hl n8 s1 (by omega)) (Ev.bind (R1 := fun b => b = leakD lines c D x) ?_ fun b hb => ?_))))
      · refine Ev.ite (fun h => ?_) fun h => Ev.pure ?_
        · refine Ev.gd gn (Ev.gd gl ((e_tot hl n8 L.cl).bind fun y hy => Ev.det el (Ev.pure ?_)))
          have h := of_decide_eq_true h
          have h : 1 < (uq ((lineAt lines x).1.map (cen m))).length := by unfold mks at h; omega
          unfold leakD
          rw [Bool.eq_iff_iff, decide_eq_true_iff, decide_eq_true_iff, hy, hd]
          exact ⟨fun z => ⟨by omega, z⟩, fun z => z.2⟩
        · unfold leakD
          exact (decide_eq_false fun z => h (decide_eq_true (by have := z.1; unfold mks; omega))).symm
      · refine Ev.ite (fun h => Ev.pure ?_) fun h => Ev.pure fun post' e' => ?_
        · rw [← i, open_yes (hb ▸ h)]
        · have : post' = post := by
            have e2 : pre ++ x :: post = pre ++ x :: post' := by rw [← e, e', List.append_assoc]; rfl
            have := List.append_cancel_left e2
            injection this with _ q
            exact q.symm
          rw [this, ← i, open_no (hb ▸ h)]
    · have i := i [] (by rw [List.append_nil])
      have cn := hD.count hp (sl_nd (uq_sl (party.map (cen m)))) fun k => uq_mem
      simp only [runW_bind, runW_ite, runW_rt]
      refine Ev.det (ltog hl hp hpl) (Ev.ite (fun h => Ev.rt ?_) fun h => Ev.rt ?_)
      · rw [← i]; show _ = if _ then _ else _
        rw [if_pos (by have := of_decide_eq_true h; omega)]
      · rw [← i]; show _ = if _ then _ else _
        rw [if_neg fun z => h (decide_eq_true (by omega))]
theorem plainO {o : Option (Int × Str)} : Plain 1 (eO (eP eI eS) o) := by
  cases o with
  | none => trivial
  | some p =>
    refine ⟨by show 2 < 100000; omega, fun d hd => ?_⟩
    rcases List.mem_cons.mp hd with rfl | hd
    · trivial
    · rw [List.mem_singleton.mp hd]; trivial
theorem e_asked_row (L : Land n lines c) {party chosen row : List Int} (hp : ∀ s ∈ party, InR n s) (hpl : party.length ≤ 1000) (hr : row.length ≤ 1000) : Ev (m_law_asked (((n : Int), lines), c, party, chosen, ("joins" : Str), .inl row, rowF n lines c party chosen row 0 (rg n), ())) (· = true) := by
  unfold m_law_asked mb_law_asked
  simp only [pure_bind, bind_assoc, seqW_bind, seqW_nx, runW_bind, runW_rt, seqW_rt, runW_ite, seqW_ite]
  refine Ev.gd (by omega) (Ev.det (v := row) ((Ev.cmp1 (pf := fun x => x) fun x _ => Ev.ite (fun z => (nomatch z)) fun _ => Ev.pure rfl).imp fun v e => by rw [e]; exact List.map_id' _) ?_)
  have : Ev (m_fault_of_holding (((n : Int), lines), c, party, chosen, (("joins" : Str), Sum.inl row), ())) (· = rowF n lines c party chosen row 0 (rg n)) := by
    unfold m_fault_of_holding
    simp only [pure_bind, bind_assoc, seqW_bind, seqW_nx, runW_bind, runW_rt, seqW_rt, runW_ite, seqW_ite]
    refine Ev.ite (fun _ => ?_) fun z => absurd (decide_eq_true trivial) z
    exact Ev.det (v := row) (fun P q => ⟨row, rfl, q _ rfl⟩) (Ev.det (e_row_prog L hp hpl hr) (Ev.rt rfl))
  refine Ev.det this (Ev.det (Ev.same plainO plainO) (Ev.bind (R1 := fun b => b = true) (Ev.ite (fun _ => Ev.ite (fun _ => Ev.pure (decide_eq_true rfl)) fun z => absurd (decide_eq_true trivial) z) fun z => absurd (decide_eq_true rfl) z) fun b hb => Ev.rt hb))
theorem e_asked_split (L : Land n lines c) (sm : Sm D) {party chosen : List Int} (hpl : party.length ≤ 1000) (hc : ∀ i ∈ chosen, InR lines.length i) : Ev (m_law_asked (((n : Int), lines), c, party, chosen, ("split" : Str), .inr D, splitF n lines c party chosen D, ())) (· = true) := by
  have hl := sm.l
  unfold m_law_asked mb_law_asked
  simp only [pure_bind, bind_assoc, seqW_bind, seqW_nx, runW_bind, runW_rt, seqW_rt, runW_ite, seqW_ite]
  refine Ev.gd (by omega) (Ev.det (v := D) ((Ev.cmp1 (pf := fun x => x) fun x _ => Ev.ite (fun _ => Ev.pure rfl) fun z => absurd trivial z).imp fun v e => by rw [e]; exact List.map_id' _) ?_)
  have : Ev (m_fault_of_holding (((n : Int), lines), c, party, chosen, (("split" : Str), Sum.inr D), ())) (· = splitF n lines c party chosen D) := by
    unfold m_fault_of_holding
    simp only [pure_bind, bind_assoc, seqW_bind, seqW_nx, runW_bind, runW_rt, seqW_rt, runW_ite, seqW_ite]
    refine Ev.ite (fun z => absurd (of_decide_eq_true z) (by decide)) fun _ => ?_
    exact Ev.det (v := D) (fun P q => ⟨D, rfl, q _ rfl⟩) (Ev.det (e_split_prog L sm hpl hc) (Ev.rt rfl))
  refine Ev.det this (Ev.det (Ev.same plainO plainO) (Ev.bind (R1 := fun b => b = true) (Ev.ite (fun _ => Ev.ite (fun _ => Ev.pure (decide_eq_true rfl)) fun z => absurd (decide_eq_true trivial) z) fun z => absurd (decide_eq_true rfl) z) fun b hb => Ev.rt hb))
end
end Cty
namespace Cty
open PySem L2 PL DW
/-! what is drawn -/
theorem Ev.cmpP {α β : Type} {xs : List α} {c : α → W Bool} {f : α → W β} {Q : β → Prop} (h : ∀ x ∈ xs, Ev (c x) fun b => b = true → Ev (f x) Q) : Ev (cmpW xs c f) fun l => l.length ≤ xs.length ∧ ∀ y ∈ l, Q y := by
  induction xs with
  | nil => exact Ev.pure ⟨Nat.le_refl _, fun y hy => (by cases hy)⟩
  | cons x xs ih =>
    have ih := ih fun y hy => h y (List.mem_cons_of_mem _ hy)
    refine (h x List.mem_cons_self).bind fun b hb => ?_
    cases b with
    | true =>
      refine (hb rfl).bind fun y hy => ih.bind fun ys hys => Ev.pure ⟨Nat.succ_le_succ hys.1, fun z hz => ?_⟩
      rcases List.mem_cons.mp hz with rfl | hz
      · exact hy
      · exact hys.2 z hz
    | false => exact ih.imp fun ys hys => ⟨Nat.le_succ_of_le hys.1, hys.2⟩
theorem Ev.cmpP1 {α β : Type} {xs : List α} {f : α → W β} {Q : β → Prop} (h : ∀ x ∈ xs, Ev (f x) Q) : Ev (cmpW xs (fun _ => pure true) f) fun l => l.length = xs.length ∧ ∀ y ∈ l, Q y := by
  induction xs with
  | nil => exact Ev.pure ⟨rfl, fun y hy => (by cases hy)⟩
  | cons x xs ih =>
    have ih := ih fun y hy => h y (List.mem_cons_of_mem _ hy)
    refine Ev.bind (Ev.pure (R := fun b => b = true) rfl) fun b hb => ?_
    rw [if_pos hb]
    refine (h x List.mem_cons_self).bind fun y hy => ih.bind fun ys hys => Ev.pure ⟨congrArg Nat.succ hys.1, fun z hz => ?_⟩
    rcases List.mem_cons.mp hz with rfl | hz
    · exact hy
    · exact hys.2 z hz
theorem Ev.step {σ ρ τ : Type} {β : Type} {c : Prop} [Decidable c] {w : W (Fl ρ β σ)} {s : σ} {k : σ → W (Fl ρ β τ)} {R : ρ → Prop} (Q : σ → Prop) (h1 : c → Ev w fun | .nx s => Q s | _ => False) (h2 : ¬c → Q s) (h3 : ∀ s, Q s → Ev (runW (k s)) R) : Ev (runW (seqW (if c then w else pure (.nx s)) k)) R :=
  Ev.seq (Ev.ite (fun h => (h1 h).imp fun v hv => by cases v with
    | nx s => exact h3 s hv
    | _ => exact hv.elim) fun h => Ev.pure (h3 _ (h2 h)))
theorem Ev.stepS {σ ρ τ : Type} {β : Type} {c : Prop} [Decidable c] {w : W (Fl ρ β σ)} {s : σ} {k : σ → W (Fl ρ β τ)} {R : Fl ρ β τ → Prop} (Q : σ → Prop) (h1 : c → Ev w fun | .nx s => Q s | _ => False) (h2 : ¬c → Q s) (h3 : ∀ s, Q s → Ev (k s) R) : Ev (seqW (if c then w else pure (.nx s)) k) R :=
  Ev.seqS (Ev.ite (fun h => (h1 h).imp fun v hv => by cases v with
    | nx s => exact h3 s hv
    | _ => exact hv.elim) fun h => Ev.pure (h3 _ (h2 h)))
theorem Ev.drw {n : Int} (h0 : 0 < n) (h1 : n < 18446744073709551616) : Ev (m_law_draw (n, ())) fun r => 0 ≤ r ∧ r < n := Ev.draw h0 h1 fun r a b => ⟨a, b⟩
theorem cut_to {l : List Int} {k : Nat} (h : k ≤ l.length) : cutL l none (some (k : Int)) = l.take k := by
  unfold cutL
  rw [HT.sIx_none, HT.sIx_nat, List.drop_zero, Nat.sub_zero, Nat.min_eq_left h]
theorem cut_from {l : List Int} {k : Nat} (h : k ≤ l.length) : cutL l (some (k : Int)) none = l.drop k := by
  unfold cutL
  rw [HT.sIx_none, HT.sIx_nat, Nat.min_eq_left h, List.take_of_length_le (by rw [List.length_drop]; omega)]
theorem cut_sub {α : Type} (l : List α) (a b : Option Int) : (cutL l a b).Sublist l := (List.take_sublist _ _).trans (List.drop_sublist _ _)
theorem cut_len {α : Type} (l : List α) (a b : Option Int) : (cutL l a b).length ≤ l.length := (cut_sub l a b).length_le
theorem srt_sl {l : List Int} (h : l.Nodup) : SL (srtI l) := (List.Pairwise.and (srtI_pw l) ((srtI_perm l).nodup_iff.mpr h)).imp fun ⟨a, b⟩ => by omega
/-- one is taken out of those left -/
theorem pick {s l : List Int} {k : Nat} {t : List Int} (p : (s ++ l).Perm t) (hk : k < l.length) : (s ++ [l[k]] ++ (cutL l none (some (k : Int)) ++ cutL l (some ((k : Int) + 1)) none)).Perm t := by
  have c1 : cutL l none (some ((k : Nat) : Int)) = l.take k := cut_to (by omega)
  have c2 : cutL l (some (((k : Nat) : Int) + 1)) none = l.drop (k + 1) := cut_from (k := k + 1) (by omega)
  rw [c1, c2]
  refine List.Perm.trans ?_ p
  rw [List.append_assoc]
  refine List.Perm.append_left _ ?_
  have z : l = l.take k ++ l[k] :: l.drop (k + 1) := by rw [← List.drop_eq_getElem_cons hk, List.take_append_drop]
  conv => rhs; rw [z]
  rw [List.singleton_append]
  exact List.perm_middle.symm
theorem e_mixed {n : Nat} (h : n ≤ 1000) : Ev (m_law_mixed_row ((n : Int), ())) fun r => r.Perm (rg n) := by
  unfold m_law_mixed_row
  simp only [pure_bind, bind_assoc, seqW_bind, seqW_nx, runW_bind, runW_rt, seqW_rt, runW_ite, seqW_ite]
  have hl : (rg n).length = n := rg_len n
  refine Ev.gd (RgOk.of_le (by omega) (by omega) (by omega) (by omega)) (Ev.gd ⟨by omega, by omega⟩ (Ev.forS (fun pre s => (s.1 ++ s.2.1).Perm (rg n) ∧ s.1.length = pre.length) ⟨List.Perm.refl _, rfl⟩ (fun pre x post s e i => ?_) (fun s i => Ev.rt ?_)))
  · obtain ⟨i1, i2⟩ := i
    obtain ⟨_, l2⟩ := at_range e
    have l1 := i1.length_eq
    rw [List.length_append] at l1
    refine Ev.bind (Ev.drw (by omega) (by omega)) fun k hk => ?_
    obtain ⟨k, rfl⟩ := Int.eq_ofNat_of_zero_le hk.1
    have hk2 : k < s.2.1.length := by omega
    have c1 := cut_len s.2.1 none (some (k : Int))
    have c2 := cut_len s.2.1 (some ((k : Int) + 1)) none
    exact Ev.det (Ev.get (DW.atI_nat (List.getElem?_eq_getElem hk2))) (Ev.gd (by omega) (Ev.gd (by show (cutL s.2.1 none (some (k : Int))).length + (cutL s.2.1 (some ((k : Int) + 1)) none).length ≤ 100000; omega) (Ev.pure ⟨pick i1 hk2, by simp [i2]⟩)))
  · obtain ⟨i1, i2⟩ := i
    have l1 := i1.length_eq
    rw [List.length_append] at l1
    have i2 : s.1.length = (rg n).length := i2
    have : s.2.1 = [] := List.length_eq_zero_iff.mp (by omega)
    rw [this, List.append_nil] at i1
    exact i1
theorem e_stops {n : Nat} {w : Int} (h2 : 2 ≤ n) (h8 : n ≤ 8) (hw : 2 ≤ w) : Ev (m_law_stops ((n : Int), w, ())) fun s => SL s ∧ (∀ v ∈ s, InR n v) ∧ 2 ≤ s.length ∧ s.length ≤ n := by
  unfold m_law_stops
  simp only [pure_bind, bind_assoc, seqW_bind, seqW_nx, runW_bind, runW_rt, seqW_rt, runW_ite, seqW_ite]
  have hl : (rg n).length = n := rg_len n
  refine Ev.bind (Ev.drw (by omega) (by omega)) fun x hx => ?_
  obtain ⟨x0, x1⟩ := hx
  obtain ⟨x, rfl⟩ := Int.eq_ofNat_of_zero_le x0
  have xn : 2 + x ≤ n := by omega
  have ex : (2 : Int) + (x : Int) = ((2 + x : Nat) : Int) := by push_cast; rfl
  rw [ex]
  refine Ev.gd (RgOk.of_le (by omega) (by omega) (by omega) (by omega)) (Ev.gd ⟨by omega, by omega⟩ (Ev.forS (fun pre s => (s.1 ++ s.2.1).Perm (rg n) ∧ s.1.length = pre.length) ⟨List.Perm.refl _, rfl⟩ (fun pre y post s e i => ?_) (fun s i => Ev.rt ?_)))
  · obtain ⟨i1, i2⟩ := i
    obtain ⟨_, l2⟩ := at_range e
    have l1 := i1.length_eq
    rw [List.length_append] at l1
    refine Ev.bind (Ev.drw (by omega) (by omega)) fun k hk => ?_
    obtain ⟨k, rfl⟩ := Int.eq_ofNat_of_zero_le hk.1
    have hk2 : k < s.2.1.length := by omega
    have c1 := cut_len s.2.1 none (some (k : Int))
    have c2 := cut_len s.2.1 (some ((k : Int) + 1)) none
    exact Ev.det (Ev.get (DW.atI_nat (List.getElem?_eq_getElem hk2))) (Ev.gd (by omega) (Ev.gd (by show (cutL s.2.1 none (some (k : Int))).length + (cutL s.2.1 (some ((k : Int) + 1)) none).length ≤ 100000; omega) (Ev.pure ⟨pick i1 hk2, by simp [i2]⟩)))
  · obtain ⟨i1, i2⟩ := i
    have i2 : s.1.length = (rg (2 + x)).length := i2
    rw [rg_len] at i2
    have nd : (s.1 ++ s.2.1).Nodup := i1.nodup_iff.mpr (sl_nd (rg_sl n))
    have p := srtI_perm s.1
    refine ⟨srt_sl (List.nodup_append.mp nd).1, fun v hv => mem_rg.mp (i1.mem_iff.mp (List.mem_append_left _ (p.mem_iff.mp hv))), by rw [p.length_eq]; omega, by rw [p.length_eq]; omega⟩
theorem e_great {t : Int} (h1 : 1 ≤ t) (h2 : t < 1000000000000000) : Ev (m_law_great (t, ())) fun r => 1 ≤ r ∧ r ≤ t := by
  unfold m_law_great
  simp only [pure_bind, bind_assoc, seqW_bind, seqW_nx, runW_bind, runW_rt, seqW_rt, runW_ite, seqW_ite]
  refine Ev.bind (Ev.drw (by decide) (by decide)) fun w hw => Ev.ite (fun _ => Ev.rt ⟨by omega, by omega⟩) fun _ => Ev.ite (fun _ => ?_) fun _ => Ev.ite (fun _ => ?_) fun _ => ?_
  · exact Ev.bind (Ev.drw (by decide) (by decide)) fun x hx => Ev.rt ⟨by omega, by omega⟩
  · refine Ev.bind (Ev.drw (by decide) (by decide)) fun x hx => Ev.gd (wide_mul (a := 20) (b := 20) (by omega) (by omega) (by omega) (by omega) (by omega)) (Ev.bind (Ev.drw (by decide) (by decide)) fun y hy => Ev.gd (by omega) (Ev.rt ?_))
    have := Int.emod_nonneg (x * 1000000 + y) (show t ≠ 0 by omega)
    have := Int.emod_lt_of_pos (x * 1000000 + y) (show 0 < t by omega)
    exact ⟨by omega, by omega⟩
  · exact Ev.bind (Ev.drw (by omega) (by omega)) fun x hx => Ev.rt ⟨by omega, by omega⟩
section
variable {n : Nat} {lines : List (List Int × Int)} {c : List Int}
theorem e_labels (L : Land n lines c) : Ev (m_law_labels ((n : Int), lines, c, ())) (Lab n) := by
  have n8 := L.n8
  have gn : -2 ^ 62 ≤ (n : Int) ∧ (n : Int) < 2 ^ 62 := ⟨by omega, by omega⟩
  have gl : (rgI 0 (n : Int)).length < 100000 := by have := rg_len n; unfold rg at this; omega
  unfold m_law_labels
  simp only [pure_bind, bind_assoc, seqW_bind, seqW_nx, runW_bind, runW_rt, seqW_rt, runW_ite, seqW_ite]
  refine Ev.gd (RgOk.of_le (by omega) (by omega) (by omega) (by omega)) (Ev.gd gn (Ev.forS (fun pre s => Lab n s.1) (lab_rg n) (fun pre x post s e i => Ev.seqS (Ev.for_ (fun pr s' => Lab n s'.1) i (fun pr y po s' e' hl => ?_) fun s' i' => ?_)) (fun s i => Ev.rt i)))
  · have ml : y ∈ lines := by rw [e']; simp
    obtain ⟨s1, s2, s3⟩ := L.st _ ml
    refine Ev.gd (by omega) (Ev.det (e_labs hl s1) (Ev.det (e_mks hl n8 s1 (by omega)) (Ev.gd gn (Ev.gd gl ((e_tot hl n8 L.cl).bind fun t ht => ?_)))))
    refine Ev.bind (R1 := fun _ => True) (Ev.ite (fun _ => Ev.pure trivial) fun _ => Ev.pure trivial) fun b _ => Ev.ite (fun _ => ?_) fun _ => Ev.pure hl
    exact Ev.gd (by rw [hl.len]; omega) (Ev.det e_join1 (Ev.pure (hl.join (mks_inr hl s1))))
  · exact Ev.ite (fun _ => Ev.seqS (Ev.pure (Ev.rt i'))) fun _ => Ev.pure i'
structure Bd (a b : Nat) (D : List (List Int)) : Prop where
  l : D.length ≤ a
  b : ∀ x ∈ D, x.length ≤ b
theorem flat_le {b : Nat} : ∀ {D : List (List Int)}, (∀ x ∈ D, x.length ≤ b) → D.flatten.length ≤ D.length * b
  | [], _ => Nat.zero_le _
  | x :: D, h => by
    have := flat_le (D := D) fun y hy => h y (List.mem_cons_of_mem _ hy)
    have := h x List.mem_cons_self
    rw [List.flatten_cons, List.length_append, List.length_cons, Nat.succ_mul]; omega
theorem Bd.sm {a b : Nat} {D : List (List Int)} (h : Bd a b D) (ha : a ≤ 20) (hb : b ≤ 20) : Sm D := ⟨by have := h.l; omega, by
  have h1 := flat_le h.b
  have h2 : D.length * b ≤ 20 * 20 := Nat.mul_le_mul (by have := h.l; omega) hb
  omega⟩
theorem e_blocks {l : List Int} (n8 : n ≤ 8) (n1 : 1 ≤ n) (h : Lab n l) : Ev (m_law_blocks (l, ())) fun D => Bd 8 8 D ∧ 1 ≤ D.length := by
  unfold m_law_blocks
  simp only [pure_bind, bind_assoc, seqW_bind, seqW_nx, runW_bind, runW_rt, seqW_rt, runW_ite, seqW_ite]
  have hl := h.len
  have ul := uq_len_le l
  have u1 : 1 ≤ (uq l).length := by
    cases l with
    | nil => simp at hl; omega
    | cons x l => exact List.length_pos_of_mem (uq_mem.mpr List.mem_cons_self)
  rw [hl]
  have gl : (rgI 0 (n : Int)).length = n := rg_len n
  refine Ev.det (e_uset (n := n) (by omega) (by omega) h.inr) (Ev.gd (by omega) (Ev.bind (Ev.cmpP1 (Q := fun b => b.length ≤ 8) fun k hk => ?_) fun D hD => Ev.rt ⟨⟨by omega, hD.2⟩, by omega⟩))
  refine Ev.gd ⟨by omega, by omega⟩ (Ev.gd (by omega) ((Ev.cmpP (Q := fun _ => True) fun v hv => ?_).imp fun l hl => by omega))
  exact (e_get h.len (mem_rg.mp hv)).bind fun y _ => Ev.pure fun _ => Ev.pure trivial
theorem Lab.set {l : List Int} {v k : Int} (h : Lab n l) (hk : InR n k) : Lab n (l.set v.toNat k) := ⟨by rw [List.length_set]; exact h.len, fun x hx => by
  rcases List.mem_or_eq_of_mem_set hx with z | rfl
  · exact h.inr x z
  · exact hk⟩
theorem e_min {l : List Int} {Q : Int → Prop} (h0 : l ≠ []) (h : ∀ x ∈ l, Q x) : Ev (minW l) Q := fun P q => ⟨List.length_pos_iff.mpr h0, fun m hm _ => q m (h m hm)⟩
theorem inr_min {a b : Int} (ha : InR n a) (hb : InR n b) : InR n (min a b) := ⟨by have := ha.1; have := hb.1; omega, by have := ha.2; omega⟩
theorem e_parting {l : List Int} (n8 : n ≤ 8) (n1 : 1 ≤ n) (h : Lab n l) : Ev (m_law_parting ((n : Int), l, ())) (Lab n) := by
  have gn : -2 ^ 62 ≤ (n : Int) ∧ (n : Int) < 2 ^ 62 := ⟨by omega, by omega⟩
  have ge : (rgI 0 (n : Int)).length = n := rg_len n
  have gl : (rgI 0 (n : Int)).length < 100000 := by omega
  have hl := h.len
  have dr : Ev (m_law_draw ((n : Int), ())) (InR n) := Ev.drw (by omega) (by omega)
  unfold m_law_parting
  simp only [pure_bind, bind_assoc, seqW_bind, seqW_nx, runW_bind, runW_rt, seqW_rt, runW_ite, seqW_ite]
  refine Ev.bind (Ev.drw (by decide) (by decide)) fun w hw => Ev.ite (fun _ => Ev.rt h) fun _ => Ev.ite (fun _ => ?_) fun _ => Ev.ite (fun _ => ?_) fun _ => ?_
  · refine dr.bind fun a ha => Ev.det (e_get hl ha) (dr.bind fun b hb => Ev.det (e_get hl hb) (Ev.gd (by omega) (Ev.bind (Ev.cmpP1 (Q := InR n) fun x hx => ?_) fun r hr => Ev.rt ⟨by omega, hr.2⟩)))
    exact Ev.gd (by simp) (Ev.ite (fun _ => Ev.pure (inr_min (h.at ha) (h.at hb))) fun _ => Ev.pure (h.inr x hx))
  · refine dr.bind fun v hv => Ev.gd gn (Ev.gd gl (Ev.bind (Ev.cmpP (Q := InR n) fun u hu => ?_) fun rest hr => ?_))
    · have hu := mem_rg.mp hu
      refine Ev.det (e_get hl hu) (Ev.det (e_get hl hv) (Ev.bind (R1 := fun _ => True) (Ev.ite (fun _ => Ev.pure trivial) fun _ => Ev.pure trivial) fun b _ => Ev.pure fun _ => Ev.pure hu))
    · refine Ev.seq (Ev.seqS (Ev.for_ (fun pr s => Lab n s.1) h (fun pr u po s e i => ?_) fun s i => ?_))
      · have hu : u ∈ rest := by rw [e]; simp
        exact (e_min (fun z => by rw [z] at hu; cases hu) hr.2).bind fun m hm => Ev.det (e_put i.len (hr.2 u hu)) (Ev.pure (i.set hm))
      · exact Ev.det (e_put i.len hv) (Ev.pure (i.set hv))
  · refine Ev.gd gn (Ev.gd gl (Ev.bind (Ev.cmpP1 (Q := fun _ => True) fun v hv => dr.imp fun _ _ => trivial) fun marks hm => ?_))
    have lm : marks.length = n := by omega
    refine Ev.gd gn (Ev.gd gl (Ev.bind (Ev.cmpP1 (Q := InR n) fun v hv => ?_) fun r hr => Ev.rt ⟨by omega, hr.2⟩))
    have hv := mem_rg.mp hv
    refine Ev.gd gn (Ev.gd gl (Ev.det (Ev.cmp (pc := fun u => decide (cen marks u = cen marks v)) (pf := fun u => u) (fun u hu => ?_) fun _ _ _ => Ev.pure rfl) ?_))
    · exact Ev.det (e_get lm (mem_rg.mp hu)) (Ev.det (e_get lm hv) (Ev.pure rfl))
    · rw [List.map_id']
      refine e_min (fun z => ?_) fun u hu => mem_rg.mp (List.mem_filter.mp hu).1
      have : v ∈ (rgI 0 (n : Int)).filter fun u => decide (cen marks u = cen marks v) := List.mem_filter.mpr ⟨mem_rg.mpr hv, decide_eq_true rfl⟩
      rw [z] at this; cases this
end
end Cty
namespace Cty
open PySem L2 PL DW
/-! divisions bent, lines, the county -/
section
variable {n : Nat} {lines : List (List Int × Int)} {c : List Int} {D : List (List Int)}
theorem e_putN {α : Type} {xs : List α} {k : Nat} {x : α} (h : k < xs.length) : Ev (putW xs (k : Int) x) (· = xs.set k x) := fun P q => by
  refine ⟨k, ?_, q _ rfl⟩
  unfold ixN
  rw [if_pos (by omega), if_pos (by omega)]; rfl
theorem cut_toN {α : Type} {l : List α} {k : Nat} (h : k ≤ l.length) : cutL l none (some (k : Int)) = l.take k := by
  unfold cutL
  rw [HT.sIx_none, HT.sIx_nat, List.drop_zero, Nat.sub_zero, Nat.min_eq_left h]
theorem cut_fromN {α : Type} {l : List α} {k : Nat} (h : k ≤ l.length) : cutL l (some (k : Int)) none = l.drop k := by
  unfold cutL
  rw [HT.sIx_none, HT.sIx_nat, Nat.min_eq_left h, List.take_of_length_le (by rw [List.length_drop]; omega)]
structure Bn (m j : Nat) (s : List (List Int)) : Prop where
  lo : m ≤ s.length
  hi : s.length ≤ m + j
  b : ∀ x ∈ s, x.length ≤ 8 + j
theorem Bn.up {m j : Nat} {s : List (List Int)} (h : Bn m j s) : Bn m (j + 1) s := ⟨h.lo, by have := h.hi; omega, fun x hx => by have := h.b x hx; omega⟩
theorem Bn.put {m j k : Nat} {s : List (List Int)} {x : List Int} (h : Bn m j s) (hx : x.length ≤ 8 + j + 1) : Bn m (j + 1) (s.set k x) := ⟨by rw [List.length_set]; exact h.lo, by rw [List.length_set]; have := h.hi; omega, fun y hy => by
  rcases List.mem_or_eq_of_mem_set hy with z | rfl
  · have := h.b y z; omega
  · omega⟩
theorem e_bent (n8 : n ≤ 8) (n1 : 1 ≤ n) (h : Bd 8 8 D) (d1 : 1 ≤ D.length) : Ev (m_law_bent ((n : Int), D, ())) Sm := by
  have hl := h.l
  unfold m_law_bent
  simp only [pure_bind, bind_assoc, seqW_bind, seqW_nx, runW_bind, runW_rt, seqW_rt]
  refine Ev.bind (Ev.drw (by decide) (by decide)) fun w hw => Ev.bind (Ev.drw (by omega) (by omega)) fun k hk => Ev.bind (Ev.drw (by omega) (by omega)) fun v hv => Ev.gd (by omega) (Ev.det (v := D) ((Ev.cmp1 (pf := fun x => x) fun _ _ => Ev.pure rfl).imp fun v e => by rw [e]; exact List.map_id' _) ?_)
  obtain ⟨k, rfl⟩ := Int.eq_ofNat_of_zero_le hk.1
  have kl : k < D.length := by omega
  have B0 : Bn D.length 0 D := ⟨by omega, by omega, h.b⟩
  have at_ : ∀ {s : List (List Int)} {j : Nat}, Bn D.length j s → ∃ x, x ∈ s ∧ Ev (getW s (k : Int)) (· = x) := fun {s j} b => by
    have hk : k < s.length := by have := b.lo; omega
    exact ⟨s[k], List.getElem_mem hk, Ev.get (DW.atI_nat (List.getElem?_eq_getElem hk))⟩
  refine Ev.bind (R1 := fun b => b = true → k + 1 < D.length) (Ev.ite (fun _ => Ev.pure fun z => by have := of_decide_eq_true z; omega) fun _ => Ev.pure fun z => (nomatch z)) fun b hb => ?_
  refine Ev.step (fun s => Bn D.length 1 s.1) (fun z => ?_) (fun _ => B0.up) fun s1 b1 => ?_
  · have k2 := hb z
    refine Ev.det (v := D[k + 1]) (Ev.get (DW.atI_nat (i := k + 1) (List.getElem?_eq_getElem k2))) (Ev.det (Ev.get (DW.atI_nat (List.getElem?_eq_getElem kl))) (Ev.gd (by simp) ?_))
    have e1 : cutL D none (some ((k : Nat) : Int)) = D.take k := cut_toN (by omega)
    have e2 : cutL D (some (((k : Nat) : Int) + 2)) none = D.drop (k + 2) := cut_fromN (k := k + 2) (by omega)
    have e1' : cutL D none (some (Int.ofNat k)) = D.take k := e1
    have e2' : cutL D (some (Int.ofNat k + 2)) none = D.drop (k + 2) := e2
    simp only [e1', e2', e1, e2]
    have lt := List.length_take_le k D
    have ld := List.length_drop (i := k + 2) (l := D)
    have lt2 : (D.take k).length = k := by rw [List.length_take]; omega
    refine Ev.gd (by show (D.take k).length + 2 ≤ _; omega) (Ev.gd (by rw [List.length_append]; show (D.take k).length + 2 + _ ≤ _; omega) (Ev.pure ⟨?_, ?_, fun x hx => ?_⟩))
    · show D.length ≤ (D.take k ++ [_, _] ++ D.drop (k + 2)).length
      rw [List.length_append, List.length_append]; show _ ≤ (D.take k).length + 2 + _; omega
    · show (D.take k ++ [_, _] ++ D.drop (k + 2)).length ≤ _
      rw [List.length_append, List.length_append]; show (D.take k).length + 2 + _ ≤ _; omega
    · have hx : x ∈ D.take k ++ [D[k + 1], D[k]] ++ D.drop (k + 2) := hx
      have : x ∈ D := by
        rcases List.mem_append.mp hx with hx | hx
        · rcases List.mem_append.mp hx with hx | hx
          · exact List.mem_of_mem_take hx
          · rcases List.mem_cons.mp hx with rfl | hx
            · exact List.getElem_mem _
            · rw [List.mem_singleton.mp hx]; exact List.getElem_mem _
        · exact List.mem_of_mem_drop hx
      have := h.b x this; omega
  refine Ev.step (fun s => Bn D.length 2 s.1) (fun z => ?_) (fun _ => b1.up) fun s2 b2 => ?_
  · obtain ⟨x, xm, ex⟩ := at_ b1
    have xl := b1.b x xm
    refine Ev.det ex (Ev.gd ⟨by omega, by omega⟩ ?_)
    have gl : (rgI 0 (x.length : Int)).length = x.length := rg_len _
    refine Ev.gd (by omega) (Ev.bind (Ev.cmpP1 (Q := fun _ => True) fun u hu => ?_) fun r hr => Ev.det (e_putN (by have := b1.lo; omega)) (Ev.pure (b1.put (by omega))))
    have hu := mem_rg.mp hu
    have := hu.1
    have := hu.2
    exact Ev.det ex (Ev.det ex (Ev.getN (by omega) (by omega) fun _ _ => trivial))
  refine Ev.step (fun s => Bn D.length 3 s.1) (fun z => ?_) (fun _ => b2.up) fun s3 b3 => ?_
  · obtain ⟨x, xm, ex⟩ := at_ b2
    have xl := b2.b x xm
    refine Ev.det ex (Ev.gd (by simp) (Ev.gd (by simp; omega) (Ev.det (e_putN (by have := b2.lo; omega)) (Ev.pure (b2.put (by rw [(srtI_perm _).length_eq, List.length_append]; show x.length + 1 ≤ _; omega))))))
  refine Ev.step (fun s => Bn D.length 4 s.1) (fun z => ?_) (fun _ => b3.up) fun s4 b4 => ?_
  · refine Ev.gd (by omega) (Ev.bind (Ev.cmpP1 (Q := fun x => x.length ≤ 8) fun x hx => ?_) fun r hr => Ev.pure ⟨by show _ ≤ r.length; omega, by show r.length ≤ _; omega, fun x hx => by have := hr.2 x hx; omega⟩)
    have := h.b x hx
    exact Ev.gd (by omega) ((Ev.cmpP (Q := fun _ => True) fun y _ => Ev.pure fun _ => Ev.pure trivial).imp fun l hl => by omega)
  refine Ev.step (fun s => Bn D.length 5 s.1) (fun z => ?_) (fun _ => b4.up) fun s5 b5 => ?_
  · have hk4 : k ≤ s4.1.length := by have := b4.lo; omega
    have h4 := b4.hi
    have e1 : cutL s4.1 none (some ((k : Nat) : Int)) = s4.1.take k := cut_toN hk4
    have e2 : cutL s4.1 (some ((k : Nat) : Int)) none = s4.1.drop k := cut_fromN hk4
    have e1' : cutL s4.1 none (some (Int.ofNat k)) = s4.1.take k := e1
    have e2' : cutL s4.1 (some (Int.ofNat k)) none = s4.1.drop k := e2
    simp only [e1', e2', e1, e2]
    have lt : (s4.1.take k).length = k := by rw [List.length_take]; omega
    have ld := List.length_drop (i := k) (l := s4.1)
    refine Ev.gd (by simp) (Ev.gd (by show (s4.1.take k).length + 1 ≤ _; omega) (Ev.gd (by rw [List.length_append]; show (s4.1.take k).length + 1 + _ ≤ _; omega) (Ev.pure ⟨?_, ?_, fun x hx => ?_⟩)))
    · show D.length ≤ (s4.1.take k ++ [[]] ++ s4.1.drop k).length
      have := b4.lo
      rw [List.length_append, List.length_append]; show _ ≤ (s4.1.take k).length + 1 + _; omega
    · show (s4.1.take k ++ [[]] ++ s4.1.drop k).length ≤ _
      rw [List.length_append, List.length_append]; show (s4.1.take k).length + 1 + _ ≤ _; omega
    · have hx : x ∈ s4.1.take k ++ [[]] ++ s4.1.drop k := hx
      rcases List.mem_append.mp hx with hx | hx
      · rcases List.mem_append.mp hx with hx | hx
        · have := b4.b x (List.mem_of_mem_take hx); omega
        · rw [List.mem_singleton.mp hx]; exact Nat.zero_le _
      · have := b4.b x (List.mem_of_mem_drop hx); omega
  refine Ev.step (fun s => Bn D.length 6 s.1) (fun z => ?_) (fun _ => b5.up) fun s6 b6 => ?_
  · obtain ⟨x, xm, ex⟩ := at_ b5
    have xl := b5.b x xm
    refine Ev.det ex (Ev.gd (by simp) (Ev.gd (by simp; omega) (Ev.det (e_putN (by have := b5.lo; omega)) (Ev.pure (b5.put (by rw [List.length_append]; show x.length + 1 ≤ _; omega))))))
  refine Ev.step (fun s => Bn D.length 7 s.1) (fun z => ?_) (fun _ => b6.up) fun s7 b7 => ?_
  · have h6 := b6.hi
    refine Ev.gd (by simp) (Ev.gd (by simp) (Ev.gd (by simp; omega) (Ev.pure ⟨?_, ?_, fun x hx => ?_⟩)))
    · show D.length ≤ s6.1.length + 1
      have := b6.lo; omega
    · show s6.1.length + 1 ≤ _
      omega
    · rcases List.mem_cons.mp hx with rfl | hx
      · show 1 ≤ _; omega
      · have := b6.b x hx; omega
  refine Ev.step (fun s => Bn D.length 8 s.1) (fun z => ?_) (fun _ => b7.up) fun s8 b8 => ?_
  · refine Ev.gd (by omega) (Ev.bind (Ev.cmpP1 (Q := fun x => x.length ≤ 8) fun x hx => ?_) fun r hr => Ev.pure ⟨by show _ ≤ r.length; omega, by show r.length ≤ _; omega, fun x hx => by have := hr.2 x hx; omega⟩)
    have := h.b x hx
    have cm : ∀ b : Bool, CMulW (n : Int) (if b = true then 1 else 0) := fun b => by cases b <;> exact wide_mul (a := 20) (b := 20) (by omega) (by decide) (by omega) (by omega) (by omega)
    refine Ev.gd (by omega) (Ev.imp (Ev.cmpP1 (Q := fun _ => True) fun y _ => ?_) fun l hl => by omega)
    exact Ev.gd (cm _) (Ev.pure trivial)
  exact Ev.rt (Bd.sm (a := 16) (b := 16) ⟨by have := b8.hi; omega, b8.b⟩ (by omega) (by omega))
theorem e_party (n2 : 2 ≤ n) (n8 : n ≤ 8) : Ev (m_law_party ((n : Int), ())) fun p => (∀ s ∈ p, InR n s) ∧ p.length ≤ 1000 := by
  unfold m_law_party
  simp only [pure_bind, bind_assoc, seqW_bind, seqW_nx, runW_bind, runW_rt, seqW_rt]
  refine (e_mixed (by omega)).bind fun r hr => Ev.bind (Ev.drw (by omega) (by omega)) fun k _ => Ev.rt ⟨fun s hs => ?_, ?_⟩
  · exact mem_rg.mp (hr.mem_iff.mp ((cut_sub _ _ _).mem ((srtI_perm _).mem_iff.mp hs)))
  · have := cut_len r none (some (2 + k))
    have := hr.length_eq
    rw [rg_len] at this
    rw [(srtI_perm _).length_eq]; omega
theorem e_some {row : List Int} (h : row.length ≤ 1000) (hr : ∀ i ∈ row, InR lines.length i) : Ev (m_law_some_lines (lines, row, ())) fun l => l.length = row.length ∧ ∀ x ∈ l, x ∈ lines := by
  unfold m_law_some_lines
  simp only [pure_bind, bind_assoc, seqW_bind, seqW_nx, runW_bind, runW_rt, seqW_rt]
  refine Ev.gd (by omega) (Ev.bind (Ev.cmpP1 (Q := fun x => x ∈ lines) fun i hi => ?_) fun l hl => Ev.rt hl)
  obtain ⟨el, ml⟩ := e_line (hr i hi)
  exact el.imp fun v e => by rw [e]; exact ml
end
end Cty
namespace Cty
open PySem L2 PL DW
/-! the county that is drawn -/
structure OkL (n : Nat) (l : List Int × Int) : Prop where
  sl : SL l.1
  inr : ∀ v ∈ l.1, InR n v
  two : 2 ≤ l.1.length
  len : l.1.length ≤ n
  lo : 1 ≤ l.2
structure Cs (n : Nat) (c : List Int) : Prop where
  len : c.length = n
  lo : ∀ x ∈ c, 0 ≤ x
  hi : ∀ x ∈ c, x ≤ 100000000000000
theorem sum_bd {k : Int} (hk : 0 ≤ k) : ∀ {l : List Int}, (∀ x ∈ l, 0 ≤ x) → (∀ x ∈ l, x ≤ k) → 0 ≤ l.sum ∧ l.sum ≤ l.length * k
  | [], _, _ => ⟨Int.le_refl _, by simp⟩
  | x :: l, h1, h2 => by
    have ih := sum_bd hk (l := l) (fun y hy => h1 y (List.mem_cons_of_mem _ hy)) fun y hy => h2 y (List.mem_cons_of_mem _ hy)
    have := h1 x List.mem_cons_self
    have := h2 x List.mem_cons_self
    rw [List.sum_cons, List.length_cons]
    have e : ((l.length + 1 : Nat) : Int) * k = l.length * k + k := by push_cast; rw [Int.add_mul, Int.one_mul]
    rw [e]; omega
section
variable {n : Nat} {lines : List (List Int × Int)} {c : List Int}
theorem sum_cap {l : List Int} (h8 : l.length ≤ 8) (h1 : ∀ x ∈ l, 0 ≤ x) (h2 : ∀ x ∈ l, x ≤ 100000000000000) : 0 ≤ l.sum ∧ l.sum ≤ 800000000000000 := by
  have := sum_bd (by decide) h1 h2
  have : ((l.length : Nat) : Int) * 100000000000000 ≤ 8 * 100000000000000 := Int.mul_le_mul_of_nonneg_right (by omega) (by decide)
  omega
theorem land_of (n8 : n ≤ 8) (hc : c.length = n) (hl : lines.length ≤ 20) (ok : ∀ l ∈ lines, OkL n l) : Land n lines c := ⟨n8, hc, hl, fun l h => ⟨(ok l h).inr, fun z => by have := (ok l h).two; rw [z] at this; simp at this, by have := (ok l h).len; omega⟩⟩
theorem p12 : CPow 10 12 := ⟨by decide, by decide, by decide⟩
theorem p14 : CPow 10 14 := ⟨by decide, by decide, by decide⟩
theorem v12 : (10 : Int) ^ Int.toNat 12 = 1000000000000 := by decide
theorem v14 : (10 : Int) ^ Int.toNat 14 = 100000000000000 := by decide
theorem e_lines_by {m : Nat} {w t : Int} (n2 : 2 ≤ n) (n8 : n ≤ 8) (hc : Cs n c) (hm : m ≤ 8) (hw : 2 ≤ w) (ht : t = 0 ∨ (1 ≤ t ∧ t ≤ 1000000000000)) : Ev (m_law_lines_by ((n : Int), c, (m : Int), w, t, ())) fun l => l.length ≤ 8 ∧ ∀ x ∈ l, OkL n x := by
  have gn : -2 ^ 62 ≤ (n : Int) ∧ (n : Int) < 2 ^ 62 := ⟨by omega, by omega⟩
  have ge : (rgI 0 (n : Int)).length = n := rg_len n
  have gl : (rgI 0 (n : Int)).length < 100000 := by omega
  have sc := sum_cap (by rw [hc.len]; exact n8) hc.lo hc.hi
  unfold m_law_lines_by
  simp only [pure_bind, bind_assoc, seqW_bind, seqW_nx, runW_bind, runW_rt, seqW_rt, v12]
  refine Ev.gd ⟨by omega, by omega⟩ (Ev.forS (fun pre s => s.1.length = pre.length ∧ ∀ x ∈ s.1, OkL n x) ⟨rfl, fun x hx => (by cases hx)⟩ (fun pre x post s e i => ?_) fun s i => ?_)
  · obtain ⟨i1, i2⟩ := i
    obtain ⟨_, pl⟩ := at_range e
    have L := land_of n8 hc.len (by omega) i2
    refine (e_stops n2 n8 hw).bind fun st hst => (e_labels L).bind fun lb hlb => ?_
    obtain ⟨s1, s2, s3, s4⟩ := hst
    refine Ev.gd (by omega) (Ev.det (e_labs hlb s2) (Ev.gd gn (Ev.gd gl ?_)))
    refine Ev.bind (R1 := fun r => 0 ≤ r.sum ∧ r.sum ≤ 800000000000000) ?_ fun r hr => ?_
    · refine (Ev.cmpP (Q := fun x => 0 ≤ x ∧ x ≤ 100000000000000) fun v hv => ?_).imp fun r hr => sum_cap (by omega) (fun x hx => (hr.2 x hx).1) fun x hx => (hr.2 x hx).2
      have hv := mem_rg.mp hv
      refine Ev.det (e_get hlb.len hv) (Ev.pure fun _ => (e_get hc.len hv).imp fun y e => ?_)
      have := cen_mem hc.len hv
      rw [e]; exact ⟨hc.lo _ this, hc.hi _ this⟩
    · obtain ⟨r0, r1⟩ := hr
      refine Ev.bind (Ev.drw (by decide) (by decide)) fun way _ => Ev.gd p12 (Ev.bind (Ev.drw (by omega) (by omega)) fun d hd => ?_)
      refine Ev.bind (R1 := fun b => b = true → 0 < t) (Ev.ite (fun _ => Ev.pure fun z => of_decide_eq_true z) fun _ => Ev.pure fun z => (nomatch z)) fun b hb => ?_
      refine Ev.stepS (fun _ => True) (fun z => ?_) (fun _ => trivial) fun s1' _ => ?_
      · have := hb z
        exact (e_great (by omega) (by omega)).bind fun _ _ => Ev.pure trivial
      refine Ev.bind (R1 := fun _ => True) (Ev.ite (fun _ => Ev.pure trivial) fun _ => Ev.pure trivial) fun b2 _ => ?_
      refine Ev.stepS (fun _ => True) (fun z => Ev.pure trivial) (fun _ => trivial) fun s2' _ => ?_
      refine Ev.stepS (fun _ => True) (fun z => Ev.pure trivial) (fun _ => trivial) fun s3' _ => ?_
      refine Ev.bind (R1 := fun b => b = true → 0 < r.sum) (Ev.ite (fun _ => Ev.pure fun z => of_decide_eq_true z) fun _ => Ev.pure fun z => (nomatch z)) fun b3 hb3 => ?_
      refine Ev.stepS (fun _ => True) (fun z => ?_) (fun _ => trivial) fun s4' _ => ?_
      · have := hb3 z
        exact (Ev.drw (by omega) (by omega)).bind fun _ _ => Ev.pure trivial
      refine Ev.gd p12 (Ev.gd (by omega) (Ev.pure ⟨?_, fun y hy => ?_⟩))
      · show (s.1 ++ [_]).length = (pre ++ [x]).length
        rw [List.length_append, List.length_append, i1]; rfl
      · rcases List.mem_append.mp hy with hy | hy
        · exact i2 y hy
        · rw [List.mem_singleton.mp hy]
          exact ⟨s1, s2, s3, s4, by show 1 ≤ max 1 _; omega⟩
  · obtain ⟨i1, i2⟩ := i
    have i1 : s.1.length = (rg m).length := i1
    rw [rg_len] at i1
    exact Ev.rt ⟨by omega, i2⟩
/-- the region takes the lines -/
theorem e_f_stops {st : List Int} (n8 : n ≤ 8) (h1 : SL st) (h2 : ∀ v ∈ st, InR n v) (h3 : 2 ≤ st.length) (h4 : st.length ≤ n) : Ev (m_fault_of_stops ((n : Int), st, ())) (· = none) := by
  unfold m_fault_of_stops
  simp only [pure_bind, bind_assoc, seqW_bind, seqW_nx, runW_bind, runW_rt, seqW_rt, runW_ite, seqW_ite]
  refine Ev.ite (fun z => absurd (of_decide_eq_true z) (by omega)) fun _ => Ev.gd (by omega) (Ev.bind (R1 := fun l => l.any id = false) ?_ fun l hl => Ev.ite (fun z => by rw [hl] at z; cases z) fun _ => ?_)
  · refine Ev.imp (Ev.cmpP1 (Q := fun b => b = false) fun v hv => ?_) fun l hl => List.any_eq_false.mpr fun x hx => by rw [hl.2 x hx]; exact fun z => (nomatch z)
    exact inr_dec.bind fun b hb => Ev.pure (by rw [hb.mpr (h2 v hv)]; rfl)
  · have e : ((st.length : Nat) : Int) - 1 = ((st.length - 1 : Nat) : Int) := by omega
    have ge := rg_len (st.length - 1)
    rw [e]
    refine Ev.gd ⟨by omega, by omega⟩ (Ev.gd (by show (rg (st.length - 1)).length < _; omega) (Ev.bind (R1 := fun l => l.any id = false) ?_ fun l hl => Ev.ite (fun z => by rw [hl] at z; cases z) fun _ => Ev.rt rfl))
    refine Ev.imp (Ev.cmpP1 (Q := fun b => b = false) fun v hv => ?_) fun l hl => List.any_eq_false.mpr fun x hx => by rw [hl.2 x hx]; exact fun z => (nomatch z)
    obtain ⟨v0, v1⟩ := mem_rg.mp hv
    obtain ⟨k, rfl⟩ := Int.eq_ofNat_of_zero_le v0
    have k1 : k < st.length := by omega
    have k2 : k + 1 < st.length := by omega
    refine Ev.det (Ev.get (DW.atI_nat (List.getElem?_eq_getElem k1))) (Ev.det (v := st[k + 1]) (Ev.get (DW.atI_nat (i := k + 1) (List.getElem?_eq_getElem k2))) (Ev.pure (decide_eq_false ?_)))
    have := List.pairwise_iff_getElem.mp h1 k (k + 1) k1 k2 (by omega)
    omega
theorem e_f_line {l : List Int × Int} (n8 : n ≤ 8) (h : OkL n l) : Ev (m_fault_of_line ((n : Int), l.1, l.2, ())) (· = none) := by
  unfold m_fault_of_line
  simp only [pure_bind, bind_assoc, seqW_bind, seqW_nx, runW_bind, runW_rt, seqW_rt, runW_ite, seqW_ite]
  refine Ev.det (e_f_stops n8 h.sl h.inr h.two h.len) (Ev.bind (R1 := fun b => b = false) (Ev.ite (fun _ => Ev.pure (decide_eq_false (by have := h.lo; omega))) fun _ => Ev.pure rfl) fun b hb => Ev.ite (fun z => by rw [hb] at z; cases z) fun _ => Ev.rt rfl)
theorem e_region (n2 : 2 ≤ n) (n8 : n ≤ 8) (hl : lines.length ≤ 20) (ok : ∀ l ∈ lines, OkL n l) : Ev (m_Region ((n : Int), lines, ())) (· = ((n : Int), lines)) := fun P q => by
  unfold m_Region
  have a1 : Ev (m_Region_1 ((n : Int), lines, ())) fun f => ∃ s, f = .nx s := by
    unfold m_Region_1
    simp only [pure_bind, bind_assoc, seqW_bind, seqW_nx, runW_bind, runW_rt, seqW_rt, runW_ite, seqW_ite]
    exact Ev.ite (fun z => absurd (of_decide_eq_true z) (by omega)) fun _ => Ev.pure ⟨_, rfl⟩
  have a2 : Ev (m_Region_2 ((n : Int), lines, ())) fun f => ∃ s, f = .nx s := by
    unfold m_Region_2
    simp only [pure_bind, bind_assoc, seqW_bind, seqW_nx, runW_bind, runW_rt, seqW_rt, runW_ite, seqW_ite]
    refine Ev.for_ (fun _ _ => True) trivial (fun pre x post s e i => ?_) fun s i => ⟨_, rfl⟩
    obtain ⟨_, xm⟩ := at_enum e
    refine Ev.det (e_f_line n8 (ok _ (List.mem_of_getElem? xm))) (Ev.ite (fun z => (nomatch z)) fun _ => Ev.pure trivial)
  have a3 : Ev (m_Region_3 ((n : Int), lines, ())) (· = lines) := by
    unfold m_Region_3
    simp only [pure_bind, bind_assoc]
    exact Ev.gd (by omega) ((Ev.cmp1 (pf := fun x => x) fun x _ => Ev.pure rfl).imp fun v e => by rw [e]; exact List.map_id' _)
  refine a1 _ fun f1 ⟨s1, e1⟩ => ?_
  rw [e1]
  refine a2 _ fun f2 ⟨s2, e2⟩ => ?_
  rw [e2]
  refine a3 _ fun l el => ?_
  rw [el]
  exact q _ rfl
/-- the county -/
structure Made (a : Int × (List ((List Int) × Int)) × (List Int) × (List Int)) : Prop where
  ex : ∃ n : Nat, a.1 = (n : Int) ∧ 2 ≤ n ∧ n ≤ 8 ∧ Cs n a.2.2.1 ∧ a.2.1.length ≤ 8 ∧ (∀ x ∈ a.2.1, OkL n x) ∧ (∀ s ∈ a.2.2.2, InR n s) ∧ a.2.2.2.length ≤ 1000
theorem e_county : Ev (m_law_county (7, ())) Made := by
  unfold m_law_county
  simp only [pure_bind, bind_assoc, seqW_bind, seqW_nx, runW_bind, runW_rt, seqW_rt, runW_ite, seqW_ite, v12, v14]
  refine Ev.bind (Ev.drw (by decide) (by decide)) fun wd _ => Ev.gd (by decide) (Ev.bind (Ev.drw (by decide) (by decide)) fun i hi => ?_)
  refine Ev.bind (Ev.getN (R := fun t => 2 ≤ t ∧ t ≤ 5) hi.1 (by show i < 8; omega) (by decide)) fun nv hn => Ev.gd (by decide) (Ev.bind (Ev.drw (by decide) (by decide)) fun j hj => ?_)
  refine Ev.bind (Ev.getN (R := fun t => 0 ≤ t ∧ t ≤ 5) hj.1 (by show j < 8; omega) (by decide)) fun mv hm => Ev.bind (Ev.drw (by decide) (by decide)) fun w hw => Ev.ite (fun _ => ?_) fun _ => ?_
  · refine Ev.bind (Ev.drw (by decide) (by decide)) fun x hx => Ev.bind (Ev.drw (by decide) (by decide)) fun m hm => Ev.gd p12 ?_
    obtain ⟨x, rfl⟩ := Int.eq_ofNat_of_zero_le hx.1
    obtain ⟨m, rfl⟩ := Int.eq_ofNat_of_zero_le hm.1
    have ex : (2 : Int) + (x : Int) = ((2 + x : Nat) : Int) := by push_cast; rfl
    rw [ex]
    have x8 : 2 + x ≤ 8 := by have := hx.2; omega
    have m8 : m ≤ 8 := by have := hm.2; omega
    refine Ev.gd ⟨by omega, by omega⟩ (Ev.seq (Ev.seqS (Ev.for_ (fun pre s => s.1.length = pre.length ∧ ∀ y ∈ s.1, 0 ≤ y ∧ y ≤ 100000000000000) ⟨rfl, fun y hy => (by cases hy)⟩ (fun pre y post s e i => ?_) fun s i => ?_)))
    · obtain ⟨i1, i2⟩ := i
      obtain ⟨_, pl⟩ := at_range e
      refine Ev.gd p14 ((e_great (by decide) (by decide)).bind fun g hg => Ev.bind (Ev.drw (by decide) (by decide)) fun z hz => ?_)
      have cm : ∀ b : Bool, CMulW g (if b = true then 1 else 0) := fun b => by cases b <;> exact wide_mul (a := 60) (b := 20) (by omega) (by decide) (by omega) (by omega) (by omega)
      refine Ev.gd (cm _) (Ev.gd (by omega) (Ev.pure ⟨?_, fun u hu => ?_⟩))
      · show (s.1 ++ [_]).length = (pre ++ [y]).length
        rw [List.length_append, List.length_append, i1]; rfl
      · rcases List.mem_append.mp hu with hu | hu
        · exact i2 u hu
        · rw [List.mem_singleton.mp hu]
          split
          · omega
          · omega
    · obtain ⟨i1, i2⟩ := i
      have i1 : s.1.length = (rg (2 + x)).length := i1
      rw [rg_len] at i1
      have cs : Cs (2 + x) s.1 := ⟨i1, fun y hy => (i2 y hy).1, fun y hy => (i2 y hy).2⟩
      refine Ev.pure ((e_lines_by (by omega) x8 cs m8 (by show (2 : Int) ≤ 5; omega) (.inr ⟨by show (1 : Int) ≤ 1000000000000; omega, by show (1000000000000 : Int) ≤ 1000000000000; omega⟩)).bind fun l hl => (e_party (by omega) x8).bind fun p hp => Ev.rt ⟨2 + x, rfl, by omega, x8, cs, hl.1, hl.2, hp.1, hp.2⟩)
  · obtain ⟨nv, rfl⟩ := Int.eq_ofNat_of_zero_le (show 0 ≤ nv by omega)
    obtain ⟨mv, rfl⟩ := Int.eq_ofNat_of_zero_le hm.1
    have n2 : 2 ≤ nv := by omega
    have n8 : nv ≤ 8 := by omega
    have ge : (rgI 0 (nv : Int)).length = nv := rg_len nv
    refine Ev.gd ⟨by omega, by omega⟩ (Ev.gd (by show (rgI 0 (nv : Int)).length < _; omega) (Ev.bind (Ev.cmpP1 (Q := fun x => 0 ≤ x ∧ x < 5) fun y _ => Ev.drw (by decide) (by decide)) fun c hc => ?_))
    have cs : Cs nv c := ⟨hc.1.trans ge, fun y hy => (hc.2 y hy).1, fun y hy => by have := hc.2 y hy; omega⟩
    exact (e_lines_by n2 n8 cs (by omega) (by omega) (.inl rfl)).bind fun l hl => (e_party n2 n8).bind fun p hp => Ev.rt ⟨nv, rfl, n2, n8, cs, hl.1, hl.2, hp.1, hp.2⟩
end
end Cty
namespace S79
open PySem L2 PL DW Cty
/-! rows and divisions of a county; the law -/
section
variable {n : Nat} {lines : List (List Int × Int)} {c : List Int}
theorem e_joining {chosen : List Int} (L : Land n lines c) (hc : ∀ i ∈ chosen, InR lines.length i) (hl : chosen.length ≤ 1000) : Ev (m_law_joining ((n : Int), lines, c, chosen, ())) fun r => r.length ≤ n ∧ ∀ i ∈ r, i ∈ chosen := by
  have n8 := L.n8
  have gn : -2 ^ 62 ≤ (n : Int) ∧ (n : Int) < 2 ^ 62 := ⟨by omega, by omega⟩
  have gl : (rgI 0 (n : Int)).length < 100000 := by have := rg_len n; unfold rg at this; omega
  unfold m_law_joining
  simp only [pure_bind, bind_assoc, seqW_bind, seqW_nx, runW_bind, runW_rt, seqW_rt, runW_ite, seqW_ite]
  refine Ev.gd (RgOk.of_le (by omega) (by omega) (by omega) (by omega)) (Ev.gd gn (Ev.forS (fun pre s => Lab n s.1 ∧ s.2.1.length = pre.length ∧ ∀ i ∈ s.2.1, i ∈ chosen) ⟨lab_rg n, rfl, fun i hi => (by cases hi)⟩ (fun pre x post s e i => ?_) (fun s i => ?_)))
  · obtain ⟨hl', i2, i3⟩ := i
    obtain ⟨_, pl⟩ := at_range e
    refine Ev.seqS (Ev.for_ (fun pr s' => s'.1.length ≤ pr.length ∧ ∀ i ∈ s'.1, i ∈ chosen) ⟨Nat.le_refl _, fun i hi => (by cases hi)⟩ (fun pr y po s' e' i' => ?_) fun s' i' => ?_)
    · obtain ⟨j1, j2⟩ := i'
      have yc : y ∈ chosen := by rw [e']; simp
      have pc : pr.length < chosen.length := by rw [e']; simp
      obtain ⟨el, ml⟩ := e_line (hc y yc)
      obtain ⟨s1, s2, s3⟩ := L.st _ ml
      refine Ev.det el (Ev.gd (by omega) (Ev.det (e_labs hl' s1) (Ev.det (e_mks hl' n8 s1 (by omega)) (Ev.bind (R1 := fun _ => True) ?_ fun b _ => ?_))))
      · refine Ev.ite (fun _ => ?_) fun _ => Ev.pure trivial
        exact Ev.gd gn (Ev.gd gl ((e_tot hl' n8 L.cl).bind fun t _ => Ev.det el (Ev.pure trivial)))
      · refine Ev.ite (fun _ => Ev.gd (by omega) (Ev.pure ⟨?_, fun i hi => ?_⟩)) fun _ => Ev.pure ⟨?_, j2⟩
        · show (s'.1 ++ [y]).length ≤ (pr ++ [y]).length
          rw [List.length_append, List.length_append]; omega
        · rcases List.mem_append.mp hi with hi | hi
          · exact j2 i hi
          · rw [List.mem_singleton.mp hi]; exact yc
        · show s'.1.length ≤ (pr ++ [y]).length
          rw [List.length_append]; omega
    · obtain ⟨j1, j2⟩ := i'
      refine Ev.ite (fun _ => Ev.pure ⟨by omega, i3⟩) fun hz => ?_
      have h0 : 0 < s'.1.length := Nat.pos_of_ne_zero fun z => hz (decide_eq_true (by omega))
      refine Ev.bind (Ev.drw (by omega) (by omega)) fun k hk => Ev.bind (Ev.getN (R := fun a => a ∈ chosen) hk.1 hk.2 j2) fun a ha => ?_
      obtain ⟨el, ml⟩ := e_line (hc a ha)
      obtain ⟨s1, s2, s3⟩ := L.st _ ml
      refine Ev.det el (Ev.gd (by omega) (Ev.det (e_labs hl' s1) (Ev.det (e_mks hl' n8 s1 (by omega)) (Ev.gd (by rw [hl'.len]; omega) (Ev.det e_join1 (Ev.gd (by omega) (Ev.pure ⟨hl'.join (mks_inr hl' s1), ?_, fun i hi => ?_⟩)))))))
      · show (s.2.1 ++ [a]).length = (pre ++ [x]).length
        rw [List.length_append, List.length_append, i2]; rfl
      · rcases List.mem_append.mp hi with hi | hi
        · exact i3 i hi
        · rw [List.mem_singleton.mp hi]; exact ha
  · obtain ⟨_, i2, i3⟩ := i
    have i2 : s.2.1.length = (rg n).length := i2
    rw [rg_len] at i2
    exact Ev.rt ⟨by omega, i3⟩
theorem e_rows {chosen : List Int} (L : Land n lines c) (hc : ∀ i ∈ chosen, InR lines.length i) (hl : chosen.length ≤ 1000) : Ev (m_law_rows ((n : Int), lines, c, chosen, ())) fun R => R.length ≤ 8 ∧ ∀ r ∈ R, r.length ≤ 1000 := by
  have n8 := L.n8
  have fw := L.few
  unfold m_law_rows
  simp only [pure_bind, bind_assoc, seqW_bind, seqW_nx, runW_bind, runW_rt, seqW_rt, runW_ite, seqW_ite]
  refine (e_joining L hc hl).bind fun r hr => ?_
  obtain ⟨r1, r2⟩ := hr
  have cl := fun (a b : Option Int) => cut_len r a b
  refine Ev.bind (Ev.drw (by omega) (by omega)) fun k hk => Ev.gd (wide_mul (a := 20) (b := 20) (by omega) (by omega) (by omega) (by omega) (by omega)) (Ev.bind (Ev.drw (by omega) (by omega)) fun w hw => ?_)
  have c1 := cl none (some k)
  have c2 := cl (some k) none
  have c3 := cl (some (k + 1)) none
  have c4 := cl none (some 1)
  have g1 : (cutL r none (some k) ++ [w - (lines.length : Int)]).length ≤ 9 := by rw [List.length_append]; show _ + 1 ≤ 9; omega
  refine Ev.gd (by simp) (Ev.gd (by simp; omega) (Ev.gd (by omega) (Ev.gd (by simp) (Ev.gd (by simp; omega) (Ev.gd (by omega) (Ev.gd (by omega) (Ev.gd (by simp) ?_)))))))
  have ge : (rgI 0 (r.length : Int)).length = r.length := rg_len _
  refine Ev.gd ⟨by omega, by omega⟩ (Ev.gd (by omega) (Ev.bind (Ev.cmpP1 (Q := fun _ => True) fun u hu => ?_) fun b hb => ?_))
  · have hu := mem_rg.mp hu
    have := hu.1
    have := hu.2
    exact Ev.getN (by omega) (by omega) fun _ _ => trivial
  · refine Ev.gd (by simp) (Ev.gd (by omega) (Ev.gd (by simp) (Ev.bind (Ev.drw (by decide) (by decide)) fun m hm => ?_)))
    obtain ⟨m, rfl⟩ := Int.eq_ofNat_of_zero_le hm.1
    have gm : (rgI 0 (m : Int)).length = m := rg_len _
    have := hm.2
    refine Ev.gd ⟨by omega, by omega⟩ (Ev.gd (by show (rgI 0 (m : Int)).length < _; omega) (Ev.bind (Ev.cmpP1 (Q := fun _ => True) fun u _ => (Ev.drw (by omega) (by omega)).bind fun _ _ => Ev.pure trivial) fun d hd => Ev.gd (by simp) (Ev.rt ⟨by simp, fun x hx => ?_⟩)))
    have hd1 : d.length = m := hd.1.trans gm
    simp only [List.mem_append, List.mem_cons, List.not_mem_nil, or_false] at hx
    rcases hx with (((rfl | rfl | rfl | rfl | rfl) | rfl) | rfl) | rfl
    · omega
    · omega
    · rw [List.length_append]; omega
    · rw [List.length_append]; omega
    · rw [List.length_append]; omega
    · omega
    · rw [List.length_append]; omega
    · omega
theorem e_splits {chosen : List Int} (n1 : 1 ≤ n) (L : Land n lines c) (hc : ∀ i ∈ chosen, InR lines.length i) (hl : chosen.length ≤ 20) : Ev (m_law_splits ((n : Int), lines, c, chosen, ())) fun R => R.length ≤ 6 ∧ ∀ D ∈ R, Sm D := by
  have n8 := L.n8
  unfold m_law_splits
  simp only [pure_bind, bind_assoc, seqW_bind, seqW_nx, runW_bind, runW_rt, seqW_rt, runW_ite, seqW_ite]
  refine (e_some (by omega) hc).bind fun sub hs => ?_
  have L2 : Land n sub c := ⟨n8, L.cl, by omega, fun l h => L.st l (hs.2 l h)⟩
  refine (e_labels L2).bind fun a ha => (e_labels L).bind fun b hb => (e_blocks n8 n1 ha).bind fun x hx => (e_blocks n8 n1 hb).bind fun y hy => Ev.gd (by simp) (Ev.gd (by simp) ?_)
  refine Ev.forS (fun pre s => s.1.length = 2 + 2 * pre.length ∧ ∀ D ∈ s.1, Sm D) ⟨rfl, fun D hD => ?_⟩ (fun pre l post s e i => ?_) fun s i => ?_
  · rcases List.mem_cons.mp hD with rfl | hD
    · exact hx.1.sm (by omega) (by omega)
    · rw [List.mem_singleton.mp hD]; exact hy.1.sm (by omega) (by omega)
  · obtain ⟨i1, i2⟩ := i
    have lab : Lab n l := by
      have : l ∈ [a, b] := by rw [e]; simp
      rcases List.mem_cons.mp this with rfl | this
      · exact ha
      · rw [List.mem_singleton.mp this]; exact hb
    have pl : pre.length < 2 := by
      have := congrArg List.length e
      rw [List.length_append, List.length_cons] at this
      have : 2 = pre.length + (post.length + 1) := this
      omega
    refine (e_parting n8 n1 lab).bind fun p hp => (e_blocks n8 n1 hp).bind fun D hD => Ev.gd (by omega) ((e_bent n8 n1 hD.1 hD.2).bind fun E hE => Ev.gd (by rw [List.length_append]; show s.1.length + 1 < _; omega) (Ev.pure ⟨?_, fun F hF => ?_⟩))
    · show (s.1 ++ [D] ++ [E]).length = 2 + 2 * (pre ++ [l]).length
      rw [List.length_append, List.length_append, List.length_append]; show s.1.length + 1 + 1 = 2 + 2 * (pre.length + 1); omega
    · rcases List.mem_append.mp hF with hF | hF
      · rcases List.mem_append.mp hF with hF | hF
        · exact i2 F hF
        · rw [List.mem_singleton.mp hF]; exact hD.1.sm (by omega) (by omega)
      · rw [List.mem_singleton.mp hF]; exact hE
  · obtain ⟨i1, i2⟩ := i
    exact Ev.rt ⟨by rw [i1]; show 2 + 2 * 2 ≤ 6; omega, i2⟩
end
abbrev Due := List Int × Str × (List Int ⊕ List (List Int)) × Option (Int × Str)
theorem e_law : Ev (runW m_law) (· = true) := by
  unfold m_law
  simp only [pure_bind, bind_assoc, seqW_bind, seqW_nx, runW_bind, runW_rt, seqW_rt, runW_ite, seqW_ite]
  refine e_county.bind fun a ha => ?_
  obtain ⟨nn, lines, c, party⟩ := a
  obtain ⟨n, e0, n2, n8, cs, l8, ok, hp, hpl⟩ := ha.ex
  have e0 : nn = (n : Int) := e0
  subst e0
  have l8 : lines.length ≤ 8 := l8
  have L : Land n lines c := land_of n8 cs.len (by omega) ok
  have gr : (rgI 0 (lines.length : Int)).length = lines.length := rg_len _
  refine Ev.det (e_region n2 n8 (by omega) ok) (Ev.gd (RgOk.of_le (by omega) (by show (lines.length : Int) ≤ _; omega) (by omega) (by show 0 ≤ (lines.length : Int); omega)) (Ev.gd (by simp) (Ev.gd ⟨by decide, by decide⟩ ?_)))
  have ok_ : ∀ l : List Int, (∀ i ∈ l, i ∈ rgI 0 (lines.length : Int)) → ∀ i ∈ l, InR lines.length i := fun l h i hi => mem_rg.mp (h i hi)
  refine Ev.forS (fun pre s => s.1.length = 2 + pre.length ∧ ∀ x ∈ s.1, x.length ≤ 8 ∧ ∀ i ∈ x, InR lines.length i) ⟨rfl, fun x hx => ?_⟩ (fun pre x post s e i => ?_) fun s i => ?_
  · rcases List.mem_cons.mp hx with rfl | hx
    · exact ⟨by show (rgI 0 (lines.length : Int)).length ≤ 8; omega, ok_ _ fun i hi => hi⟩
    · rw [List.mem_singleton.mp hx]; exact ⟨Nat.zero_le _, fun i hi => (by cases hi)⟩
  · obtain ⟨i1, i2⟩ := i
    obtain ⟨_, pl⟩ := at_range (m := 2) e
    refine Ev.gd ⟨by show -2 ^ 62 ≤ (lines.length : Int); omega, by show (lines.length : Int) < 2 ^ 62; omega⟩ (Ev.gd (by show (rgI 0 (lines.length : Int)).length < 100000; omega) (Ev.bind (Ev.cmpP (Q := fun i => InR lines.length i) fun u hu => ?_) fun r hr => Ev.gd (by omega) (Ev.pure ⟨?_, fun y hy => ?_⟩)))
    · exact (Ev.drw (by decide) (by decide)).bind fun _ _ => Ev.pure fun _ => Ev.pure (mem_rg.mp hu)
    · show (s.1 ++ [_]).length = 2 + (pre ++ [x]).length
      rw [List.length_append, List.length_append, i1]; rfl
    · rcases List.mem_append.mp hy with hy | hy
      · exact i2 y hy
      · rw [List.mem_singleton.mp hy]
        exact ⟨by have : r.length ≤ (rgI 0 (lines.length : Int)).length := hr.1
                  omega, hr.2⟩
  · obtain ⟨i1, i2⟩ := i
    have i1 : s.1.length = 2 + (rg 2).length := i1
    rw [rg_len] at i1
    refine Ev.forS (fun pre (s' : List Due × Unit) => s'.1.length ≤ 14 * pre.length ∧ ∀ d ∈ s'.1, Ev (m_law_asked (((n : Int), lines), c, party, d.1, d.2.1, d.2.2.1, d.2.2.2, ())) (· = true)) ⟨Nat.le_refl _, fun d hd => (by cases hd)⟩ (fun pre ch post s' e i => ?_) fun s' i => ?_
    · obtain ⟨j1, j2⟩ := i
      have hch := i2 ch (by rw [e]; simp)
      have pl : pre.length < s.1.length := by rw [e]; simp
      refine (e_rows L hch.2 (by omega)).bind fun R hR => Ev.seqS (Ev.for_ (fun pr (t : List Due × Unit) => t.1.length ≤ 14 * pre.length + pr.length ∧ ∀ d ∈ t.1, Ev (m_law_asked (((n : Int), lines), c, party, d.1, d.2.1, d.2.2.1, d.2.2.2, ())) (· = true)) ⟨j1, j2⟩ (fun pr row po t e' i' => ?_) fun t i' => ?_)
      · obtain ⟨k1, k2⟩ := i'
        have hrow := hR.2 row (by rw [e']; simp)
        have pl2 : pr.length < R.length := by rw [e']; simp
        have := hR.1
        refine Ev.det (e_row_law L hp hpl hrow) (Ev.gd (by omega) (Ev.pure ⟨?_, fun d hd => ?_⟩))
        · show (t.1 ++ [_]).length ≤ 14 * pre.length + (pr ++ [row]).length
          rw [List.length_append, List.length_append]; show t.1.length + 1 ≤ 14 * pre.length + (pr.length + 1); omega
        · rcases List.mem_append.mp hd with hd | hd
          · exact k2 d hd
          · rw [List.mem_singleton.mp hd]; exact e_asked_row L hp hpl hrow
      · obtain ⟨k1, k2⟩ := i'
        have := hR.1
        refine (e_splits (by omega) L hch.2 (by omega)).bind fun S hS => Ev.seqS (Ev.for_ (fun pr (u : List Due × Unit) => u.1.length ≤ 14 * pre.length + 8 + pr.length ∧ ∀ d ∈ u.1, Ev (m_law_asked (((n : Int), lines), c, party, d.1, d.2.1, d.2.2.1, d.2.2.2, ())) (· = true)) ⟨by show t.1.length ≤ 14 * pre.length + 8 + 0; omega, k2⟩ (fun pr D po u e' i' => ?_) fun u i' => ?_)
        · obtain ⟨m1, m2⟩ := i'
          have hD := hS.2 D (by rw [e']; simp)
          have pl2 : pr.length < S.length := by rw [e']; simp
          have := hS.1
          refine Ev.det (e_split_law L hD hp hpl hch.2) (Ev.gd (by omega) (Ev.pure ⟨?_, fun d hd => ?_⟩))
          · show (u.1 ++ [_]).length ≤ 14 * pre.length + 8 + (pr ++ [D]).length
            rw [List.length_append, List.length_append]; show u.1.length + 1 ≤ 14 * pre.length + 8 + (pr.length + 1); omega
          · rcases List.mem_append.mp hd with hd | hd
            · exact m2 d hd
            · rw [List.mem_singleton.mp hd]; exact e_asked_split L hD hpl hch.2
        · obtain ⟨m1, m2⟩ := i'
          have := hS.1
          refine Ev.pure ⟨?_, m2⟩
          show u.1.length ≤ 14 * (pre ++ [ch]).length
          rw [List.length_append]; show u.1.length ≤ 14 * (pre.length + 1); omega
    · obtain ⟨j1, j2⟩ := i
      have j1 : s'.1.length ≤ 14 * s.1.length := j1
      refine Ev.forS (fun _ _ => True) trivial (fun pre d post t e _ => ?_) fun t _ => ?_
      · exact Ev.det (j2 d (by rw [e]; simp)) (Ev.ite (fun z => (nomatch z)) fun _ => Ev.pure trivial)
      · have gs : (rgI 0 (s'.1.length : Int)).length = s'.1.length := rg_len _
        refine Ev.gd ⟨by show -2 ^ 62 ≤ (s'.1.length : Int); omega, by show (s'.1.length : Int) < 2 ^ 62; omega⟩ (Ev.forS (fun _ _ => True) trivial (fun pre k post t e _ => ?_) fun t _ => Ev.rt rfl)
        obtain ⟨rfl, pl⟩ := at_range e
        refine Ev.bind (Ev.getN (R := fun d => d ∈ s'.1) (by omega) (by omega) fun d hd => hd) fun d hd => Ev.det (j2 d hd) (Ev.ite (fun z => (nomatch z)) fun _ => Ev.pure trivial)
end S79
namespace DW
open PySem PySem.Spec PyProof.Rows L2 PL
theorem td_of {K : PySem.W.Frag} {mg : Str → Option Value} {x : Str} {st : Stmt} {ps : List Str} {f : Addr} {fd : FuncData} (F : FunD K x x (defArgs st) (defBody st) (defScope st) [] [] f fd) (g : mg x = some (.ref f)) (b : Binds K fd ps []) : TD K mg x st ps f fd := ⟨He5.fun_of F, g, b⟩
def D0 : He.DefD := ⟨("ordered", none), "ordered", "ordered", defArgs s_ordered, defBody s_ordered, defScope s_ordered, [], []⟩
def D1 : He.DefD := ⟨("tidy", none), "tidy", "tidy", defArgs s_tidy, defBody s_tidy, defScope s_tidy, [], []⟩
def D2 : He.DefD := ⟨("is_division", none), "is_division", "is_division", defArgs s_is_division, defBody s_is_division, defScope s_is_division, [], []⟩
def D3 : He.DefD := ⟨("singles", none), "singles", "singles", defArgs s_singles, defBody s_singles, defScope s_singles, [], []⟩
def D4 : He.DefD := ⟨("touched_by", none), "touched_by", "touched_by", defArgs s_touched_by, defBody s_touched_by, defScope s_touched_by, [], []⟩
def D5 : He.DefD := ⟨("join_blocks", none), "join_blocks", "join_blocks", defArgs s_join_blocks, defBody s_join_blocks, defScope s_join_blocks, [], []⟩
def D6 : He.DefD := ⟨("heads_of_blocks", none), "heads_of_blocks", "heads_of_blocks", defArgs s_heads_of_blocks, defBody s_heads_of_blocks, defScope s_heads_of_blocks, [], []⟩
def D7 : He.DefD := ⟨("fault_of_join", none), "fault_of_join", "fault_of_join", defArgs s_fault_of_join, defBody s_fault_of_join, defScope s_fault_of_join, [], []⟩
def D8 : He.DefD := ⟨("fault_of_stops", none), "fault_of_stops", "fault_of_stops", defArgs s_fault_of_stops, defBody s_fault_of_stops, defScope s_fault_of_stops, [], []⟩
def D9 : He.DefD := ⟨("fault_of_line", none), "fault_of_line", "fault_of_line", defArgs s_fault_of_line, defBody s_fault_of_line, defScope s_fault_of_line, [], []⟩
def D10 : He.DefD := ⟨("is_together", none), "is_together", "is_together", defArgs s_is_together, defBody s_is_together, defScope s_is_together, [], []⟩
def D11 : He.DefD := ⟨("fault_of_member", none), "fault_of_member", "fault_of_member", defArgs s_fault_of_member, defBody s_fault_of_member, defScope s_fault_of_member, [], []⟩
def D12 : He.DefD := ⟨("fault_of_row", none), "fault_of_row", "fault_of_row", defArgs s_fault_of_row, defBody s_fault_of_row, defScope s_fault_of_row, [], []⟩
def D13 : He.DefD := ⟨("leaks", none), "leaks", "leaks", defArgs s_leaks, defBody s_leaks, defScope s_leaks, [], []⟩
def D14 : He.DefD := ⟨("fault_of_split", none), "fault_of_split", "fault_of_split", defArgs s_fault_of_split, defBody s_fault_of_split, defScope s_fault_of_split, [], []⟩
def D15 : He.DefD := ⟨("fault_of_holding", none), "fault_of_holding", "fault_of_holding", defArgs s_fault_of_holding, defBody s_fault_of_holding, defScope s_fault_of_holding, [], []⟩
def D16 : He.DefD := ⟨("_law_pool", none), "_law_pool", "_law_pool", defArgs s_law_pool, defBody s_law_pool, defScope s_law_pool, [], []⟩
def D17 : He.DefD := ⟨("_law_draw", none), "_law_draw", "_law_draw", defArgs s_law_draw, defBody s_law_draw, defScope s_law_draw, [], []⟩
def D18 : He.DefD := ⟨("_law_stops", none), "_law_stops", "_law_stops", defArgs s_law_stops, defBody s_law_stops, defScope s_law_stops, [], []⟩
def D19 : He.DefD := ⟨("_law_great", none), "_law_great", "_law_great", defArgs s_law_great, defBody s_law_great, defScope s_law_great, [], []⟩
def D20 : He.DefD := ⟨("_law_mixed_row", none), "_law_mixed_row", "_law_mixed_row", defArgs s_law_mixed_row, defBody s_law_mixed_row, defScope s_law_mixed_row, [], []⟩
def D21 : He.DefD := ⟨("_law_labels", none), "_law_labels", "_law_labels", defArgs s_law_labels, defBody s_law_labels, defScope s_law_labels, [], []⟩
def D22 : He.DefD := ⟨("_law_blocks", none), "_law_blocks", "_law_blocks", defArgs s_law_blocks, defBody s_law_blocks, defScope s_law_blocks, [], []⟩
def D23 : He.DefD := ⟨("_law_same", none), "_law_same", "_law_same", defArgs s_law_same, defBody s_law_same, defScope s_law_same, [], []⟩
def D24 : He.DefD := ⟨("_law_parting", none), "_law_parting", "_law_parting", defArgs s_law_parting, defBody s_law_parting, defScope s_law_parting, [], []⟩
def D25 : He.DefD := ⟨("_law_is_division", none), "_law_is_division", "_law_is_division", defArgs s_law_is_division, defBody s_law_is_division, defScope s_law_is_division, [], []⟩
def D26 : He.DefD := ⟨("_law_marks", none), "_law_marks", "_law_marks", defArgs s_law_marks, defBody s_law_marks, defScope s_law_marks, [], []⟩
def D27 : He.DefD := ⟨("_law_bent", none), "_law_bent", "_law_bent", defArgs s_law_bent, defBody s_law_bent, defScope s_law_bent, [], []⟩
def D28 : He.DefD := ⟨("_law_lines_by", none), "_law_lines_by", "_law_lines_by", defArgs s_law_lines_by, defBody s_law_lines_by, defScope s_law_lines_by, [], []⟩
def D29 : He.DefD := ⟨("_law_party", none), "_law_party", "_law_party", defArgs s_law_party, defBody s_law_party, defScope s_law_party, [], []⟩
def D30 : He.DefD := ⟨("_law_county", none), "_law_county", "_law_county", defArgs s_law_county, defBody s_law_county, defScope s_law_county, [], []⟩
def D31 : He.DefD := ⟨("_law_some_lines", none), "_law_some_lines", "_law_some_lines", defArgs s_law_some_lines, defBody s_law_some_lines, defScope s_law_some_lines, [], []⟩
def D32 : He.DefD := ⟨("_law_together", none), "_law_together", "_law_together", defArgs s_law_together, defBody s_law_together, defScope s_law_together, [], []⟩
def D33 : He.DefD := ⟨("_law_row_fault", none), "_law_row_fault", "_law_row_fault", defArgs s_law_row_fault, defBody s_law_row_fault, defScope s_law_row_fault, [], []⟩
def D34 : He.DefD := ⟨("_law_split_fault", none), "_law_split_fault", "_law_split_fault", defArgs s_law_split_fault, defBody s_law_split_fault, defScope s_law_split_fault, [], []⟩
def D35 : He.DefD := ⟨("_law_joining", none), "_law_joining", "_law_joining", defArgs s_law_joining, defBody s_law_joining, defScope s_law_joining, [], []⟩
def D36 : He.DefD := ⟨("_law_rows", none), "_law_rows", "_law_rows", defArgs s_law_rows, defBody s_law_rows, defScope s_law_rows, [], []⟩
def D37 : He.DefD := ⟨("_law_splits", none), "_law_splits", "_law_splits", defArgs s_law_splits, defBody s_law_splits, defScope s_law_splits, [], []⟩
def D38 : He.DefD := ⟨("_law_asked", none), "_law_asked", "_law_asked", defArgs s_law_asked, defBody s_law_asked, defScope s_law_asked, [], []⟩
def D39 : He.DefD := ⟨("law", none), "law", "law", defArgs s_law, defBody s_law, defScope s_law, [], []⟩
def D40 : He.DefD := ⟨("Region", some "__init__"), "__init__", "Region.__init__", defArgs s_Region_init, defBody s_Region_init, defScope s_Region_init, [], []⟩
def D41 : He.DefD := ⟨("BadDivision", some "__init__"), "__init__", "BadDivision.__init__", defArgs s_BadDivision_init, defBody s_BadDivision_init, defScope s_BadDivision_init, [], []⟩
def fnL : List He.DefD := D0 :: D1 :: D2 :: D3 :: D4 :: D5 :: D6 :: D7 :: D8 :: D9 :: D10 :: D11 :: D12 :: D13 :: D14 :: D15 :: D16 :: D17 :: D18 :: D19 :: D20 :: D21 :: D22 :: D23 :: D24 :: D25 :: D26 :: D27 :: D28 :: D29 :: D30 :: D31 :: D32 :: D33 :: D34 :: D35 :: D36 :: D37 :: D38 :: D39 :: D40 :: D41 :: []
def faL : List He.Fa := [.glo "ordered", .glo "tidy", .glo "is_division", .glo "singles", .glo "touched_by", .glo "join_blocks", .glo "heads_of_blocks", .glo "fault_of_join", .glo "fault_of_stops", .glo "fault_of_line", .glo "is_together", .glo "fault_of_member", .glo "fault_of_row", .glo "leaks", .glo "fault_of_split", .glo "fault_of_holding", .glo "_law_pool", .glo "_law_draw", .glo "_law_stops", .glo "_law_great", .glo "_law_mixed_row", .glo "_law_labels", .glo "_law_blocks", .glo "_law_same", .glo "_law_parting", .glo "_law_is_division", .glo "_law_marks", .glo "_law_bent", .glo "_law_lines_by", .glo "_law_party", .glo "_law_county", .glo "_law_some_lines", .glo "_law_together", .glo "_law_row_fault", .glo "_law_split_fault", .glo "_law_joining", .glo "_law_rows", .glo "_law_splits", .glo "_law_asked", .glo "law"] ++ [.free "len", .free "sum", .free "any", .free "all", .free "sorted", .free "list", .free "tuple", .free "set", .free "max", .free "min", .free "abs", .free "int", .free "range", .free "isinstance", .free "enumerate", .free "zip", .free "reversed", .free "bool", .free "str"] ++ [.glo "Region", .glo "BadDivision", .cls "Region", .noat "Region" "villages", .noat "Region" "lines", .mkr "Region"]
abbrev rowO : PySem.W.OpenRow := PySem.W.OpenLaw.row PySem.Challenge.rw_parishlines_k79_fault_of_holding
/-- what is imported -/
def chkE (K : PySem.W.Frag) : Bool := exB K "BadDivision"
def obsE (n : Nat) (g : Addr → Option Obj) : He.AlD × Bool := (He.obsD faL fnL (He.frG g (He.asD g n)), chkE (He.frG g (He.asD g n)))
/-- the facts of the defs -/
def hookE (n : Nat) : PySem.W.Hook where
  α := He.AlD × Bool
  obs := fun s => obsE n s.heap.get?
  val := fun _ => (He.valD fnL, true)
  says := fun _ h => ∃ K : PySem.W.Frag, K.In h ∧ He.SaysD faL fnL K ∧ chkE K = true
  of := fun _ _ e => ⟨_, He.frG_in, congrArg (fun z : He.AlD × Bool => z.1) e, congrArg (fun z : He.AlD × Bool => z.2) e⟩
  keeps := fun _ _ _ ⟨K, hK, c⟩ k => ⟨K, PySem.W.Frag.In.keeps hK k, c⟩
abbrev hkE : PySem.W.Hook := hookE 4
def obE (s : PySem.W.SharedT) : He.AlD × Bool := obsE 4 (HandSHeadRun.getT s)
theorem obE_eq (s : PySem.W.SharedT) : obE s = hkE.obs s.abs := by
  have e : HandSHeadRun.getT s = s.abs.heap.get? := funext (HandSHeadRun.getT_eq s)
  show obsE 4 _ = obsE 4 _
  rw [e]
def looseL : List Str := (("_wall" : Str) :: ("VillageError" : Str) :: ("BadRegion" : Str) :: ("BadDivision" : Str) :: ("ordered" : Str) :: ("tidy" : Str) :: ("is_division" : Str) :: ("singles" : Str) :: ("touched_by" : Str) :: ("join_blocks" : Str) :: ("heads_of_blocks" : Str) :: ("fault_of_join" : Str) :: ("fault_of_stops" : Str) :: ("fault_of_line" : Str) :: ("Region" : Str) :: ("is_together" : Str) :: ("fault_of_member" : Str) :: ("fault_of_row" : Str) :: ("leaks" : Str) :: ("fault_of_split" : Str) :: ("fault_of_holding" : Str) :: ("_law_pool" : Str) :: ("_law_draw" : Str) :: ("_law_stops" : Str) :: ("_law_great" : Str) :: ("_law_mixed_row" : Str) :: ("_law_labels" : Str) :: ("_law_blocks" : Str) :: ("_law_same" : Str) :: ("_law_parting" : Str) :: ("_law_is_division" : Str) :: ("_law_marks" : Str) :: ("_law_bent" : Str) :: ("_law_lines_by" : Str) :: ("_law_party" : Str) :: ("_law_county" : Str) :: ("_law_some_lines" : Str) :: ("_law_together" : Str) :: ("_law_row_fault" : Str) :: ("_law_split_fault" : Str) :: ("_law_joining" : Str) :: ("_law_rows" : Str) :: ("_law_splits" : Str) :: ("_law_asked" : Str) :: [])
theorem runE (w : World) : HandSHeadRun.RunEq rowO (PySem.W.view rowO.prog [51]) hkE obE 6000 looseL w := by
  intro os
  kernel_rfl
theorem facts79 {P : Program} {w : World} {K : PySem.W.Frag} {h : Heap} {mg : Str → Option Value} {f : Addr} (X : K.In h) (G : h.Ns mainGlobals mg) (hfa : mg ("law" : Str) = some (.ref f)) (c : He.SaysD faL fnL K) (ce : chkE K = true) :
    ∃ fd : FuncData, (∀ (s : Shared) (v : Value), BindsTo s fd ⟨[v], []⟩ [("script", v)]) ∧ ∀ base : Heap, K.In base → base.Ns mainGlobals mg → FnOk P w K mg base CX0 8 f fd ["script"] (SpLaw K) := by
  obtain ⟨fd0, F0⟩ := c.def_ 0 (d := D0) rfl
  have g0 := He.glo_ok X G (c.fact 0 (f := .glo "ordered") rfl)
  obtain ⟨fd1, F1⟩ := c.def_ 1 (d := D1) rfl
  have g1 := He.glo_ok X G (c.fact 1 (f := .glo "tidy") rfl)
  obtain ⟨fd2, F2⟩ := c.def_ 2 (d := D2) rfl
  have g2 := He.glo_ok X G (c.fact 2 (f := .glo "is_division") rfl)
  obtain ⟨fd3, F3⟩ := c.def_ 3 (d := D3) rfl
  have g3 := He.glo_ok X G (c.fact 3 (f := .glo "singles") rfl)
  obtain ⟨fd4, F4⟩ := c.def_ 4 (d := D4) rfl
  have g4 := He.glo_ok X G (c.fact 4 (f := .glo "touched_by") rfl)
  obtain ⟨fd5, F5⟩ := c.def_ 5 (d := D5) rfl
  have g5 := He.glo_ok X G (c.fact 5 (f := .glo "join_blocks") rfl)
  obtain ⟨fd6, F6⟩ := c.def_ 6 (d := D6) rfl
  have g6 := He.glo_ok X G (c.fact 6 (f := .glo "heads_of_blocks") rfl)
  obtain ⟨fd7, F7⟩ := c.def_ 7 (d := D7) rfl
  have g7 := He.glo_ok X G (c.fact 7 (f := .glo "fault_of_join") rfl)
  obtain ⟨fd8, F8⟩ := c.def_ 8 (d := D8) rfl
  have g8 := He.glo_ok X G (c.fact 8 (f := .glo "fault_of_stops") rfl)
  obtain ⟨fd9, F9⟩ := c.def_ 9 (d := D9) rfl
  have g9 := He.glo_ok X G (c.fact 9 (f := .glo "fault_of_line") rfl)
  obtain ⟨fd10, F10⟩ := c.def_ 10 (d := D10) rfl
  have g10 := He.glo_ok X G (c.fact 10 (f := .glo "is_together") rfl)
  obtain ⟨fd11, F11⟩ := c.def_ 11 (d := D11) rfl
  have g11 := He.glo_ok X G (c.fact 11 (f := .glo "fault_of_member") rfl)
  obtain ⟨fd12, F12⟩ := c.def_ 12 (d := D12) rfl
  have g12 := He.glo_ok X G (c.fact 12 (f := .glo "fault_of_row") rfl)
  obtain ⟨fd13, F13⟩ := c.def_ 13 (d := D13) rfl
  have g13 := He.glo_ok X G (c.fact 13 (f := .glo "leaks") rfl)
  obtain ⟨fd14, F14⟩ := c.def_ 14 (d := D14) rfl
  have g14 := He.glo_ok X G (c.fact 14 (f := .glo "fault_of_split") rfl)
  obtain ⟨fd15, F15⟩ := c.def_ 15 (d := D15) rfl
  have g15 := He.glo_ok X G (c.fact 15 (f := .glo "fault_of_holding") rfl)
  obtain ⟨fd16, F16⟩ := c.def_ 16 (d := D16) rfl
  have g16 := He.glo_ok X G (c.fact 16 (f := .glo "_law_pool") rfl)
  obtain ⟨fd17, F17⟩ := c.def_ 17 (d := D17) rfl
  have g17 := He.glo_ok X G (c.fact 17 (f := .glo "_law_draw") rfl)
  obtain ⟨fd18, F18⟩ := c.def_ 18 (d := D18) rfl
  have g18 := He.glo_ok X G (c.fact 18 (f := .glo "_law_stops") rfl)
  obtain ⟨fd19, F19⟩ := c.def_ 19 (d := D19) rfl
  have g19 := He.glo_ok X G (c.fact 19 (f := .glo "_law_great") rfl)
  obtain ⟨fd20, F20⟩ := c.def_ 20 (d := D20) rfl
  have g20 := He.glo_ok X G (c.fact 20 (f := .glo "_law_mixed_row") rfl)
  obtain ⟨fd21, F21⟩ := c.def_ 21 (d := D21) rfl
  have g21 := He.glo_ok X G (c.fact 21 (f := .glo "_law_labels") rfl)
  obtain ⟨fd22, F22⟩ := c.def_ 22 (d := D22) rfl
  have g22 := He.glo_ok X G (c.fact 22 (f := .glo "_law_blocks") rfl)
  obtain ⟨fd23, F23⟩ := c.def_ 23 (d := D23) rfl
  have g23 := He.glo_ok X G (c.fact 23 (f := .glo "_law_same") rfl)
  obtain ⟨fd24, F24⟩ := c.def_ 24 (d := D24) rfl
  have g24 := He.glo_ok X G (c.fact 24 (f := .glo "_law_parting") rfl)
  obtain ⟨fd25, F25⟩ := c.def_ 25 (d := D25) rfl
  have g25 := He.glo_ok X G (c.fact 25 (f := .glo "_law_is_division") rfl)
  obtain ⟨fd26, F26⟩ := c.def_ 26 (d := D26) rfl
  have g26 := He.glo_ok X G (c.fact 26 (f := .glo "_law_marks") rfl)
  obtain ⟨fd27, F27⟩ := c.def_ 27 (d := D27) rfl
  have g27 := He.glo_ok X G (c.fact 27 (f := .glo "_law_bent") rfl)
  obtain ⟨fd28, F28⟩ := c.def_ 28 (d := D28) rfl
  have g28 := He.glo_ok X G (c.fact 28 (f := .glo "_law_lines_by") rfl)
  obtain ⟨fd29, F29⟩ := c.def_ 29 (d := D29) rfl
  have g29 := He.glo_ok X G (c.fact 29 (f := .glo "_law_party") rfl)
  obtain ⟨fd30, F30⟩ := c.def_ 30 (d := D30) rfl
  have g30 := He.glo_ok X G (c.fact 30 (f := .glo "_law_county") rfl)
  obtain ⟨fd31, F31⟩ := c.def_ 31 (d := D31) rfl
  have g31 := He.glo_ok X G (c.fact 31 (f := .glo "_law_some_lines") rfl)
  obtain ⟨fd32, F32⟩ := c.def_ 32 (d := D32) rfl
  have g32 := He.glo_ok X G (c.fact 32 (f := .glo "_law_together") rfl)
  obtain ⟨fd33, F33⟩ := c.def_ 33 (d := D33) rfl
  have g33 := He.glo_ok X G (c.fact 33 (f := .glo "_law_row_fault") rfl)
  obtain ⟨fd34, F34⟩ := c.def_ 34 (d := D34) rfl
  have g34 := He.glo_ok X G (c.fact 34 (f := .glo "_law_split_fault") rfl)
  obtain ⟨fd35, F35⟩ := c.def_ 35 (d := D35) rfl
  have g35 := He.glo_ok X G (c.fact 35 (f := .glo "_law_joining") rfl)
  obtain ⟨fd36, F36⟩ := c.def_ 36 (d := D36) rfl
  have g36 := He.glo_ok X G (c.fact 36 (f := .glo "_law_rows") rfl)
  obtain ⟨fd37, F37⟩ := c.def_ 37 (d := D37) rfl
  have g37 := He.glo_ok X G (c.fact 37 (f := .glo "_law_splits") rfl)
  obtain ⟨fd38, F38⟩ := c.def_ 38 (d := D38) rfl
  have g38 := He.glo_ok X G (c.fact 38 (f := .glo "_law_asked") rfl)
  obtain ⟨fd39, F39⟩ := c.def_ 39 (d := D39) rfl
  have g39 := He.glo_ok X G (c.fact 39 (f := .glo "law") rfl)
  have m_len := He.free_ok X G (c.fact 40 (f := .free "len") rfl)
  have m_sum := He.free_ok X G (c.fact 41 (f := .free "sum") rfl)
  have m_any := He.free_ok X G (c.fact 42 (f := .free "any") rfl)
  have m_all := He.free_ok X G (c.fact 43 (f := .free "all") rfl)
  have m_sorted := He.free_ok X G (c.fact 44 (f := .free "sorted") rfl)
  have m_list := He.free_ok X G (c.fact 45 (f := .free "list") rfl)
  have m_tuple := He.free_ok X G (c.fact 46 (f := .free "tuple") rfl)
  have m_set := He.free_ok X G (c.fact 47 (f := .free "set") rfl)
  have m_max := He.free_ok X G (c.fact 48 (f := .free "max") rfl)
  have m_min := He.free_ok X G (c.fact 49 (f := .free "min") rfl)
  have m_abs := He.free_ok X G (c.fact 50 (f := .free "abs") rfl)
  have m_int := He.free_ok X G (c.fact 51 (f := .free "int") rfl)
  have m_range := He.free_ok X G (c.fact 52 (f := .free "range") rfl)
  have m_isinstance := He.free_ok X G (c.fact 53 (f := .free "isinstance") rfl)
  have m_enumerate := He.free_ok X G (c.fact 54 (f := .free "enumerate") rfl)
  have m_zip := He.free_ok X G (c.fact 55 (f := .free "zip") rfl)
  have m_reversed := He.free_ok X G (c.fact 56 (f := .free "reversed") rfl)
  have m_bool := He.free_ok X G (c.fact 57 (f := .free "bool") rfl)
  have m_str := He.free_ok X G (c.fact 58 (f := .free "str") rfl)
  have T0 : TD K mg "ordered" s_ordered ["blocks"] _ fd0 := td_of F0 g0 (FunD.bindsN F0 fun _ _ _ _ _ _ us hl => match us, hl with | [_], _ => rfl)
  have T1 : TD K mg "tidy" s_tidy ["villages", "blocks"] _ fd1 := td_of F1 g1 (FunD.bindsN F1 fun _ _ _ _ _ _ us hl => match us, hl with | [_, _], _ => rfl)
  have T2 : TD K mg "is_division" s_is_division ["villages", "blocks"] _ fd2 := td_of F2 g2 (FunD.bindsN F2 fun _ _ _ _ _ _ us hl => match us, hl with | [_, _], _ => rfl)
  have T3 : TD K mg "singles" s_singles ["villages"] _ fd3 := td_of F3 g3 (FunD.bindsN F3 fun _ _ _ _ _ _ us hl => match us, hl with | [_], _ => rfl)
  have T4 : TD K mg "touched_by" s_touched_by ["division", "stops"] _ fd4 := td_of F4 g4 (FunD.bindsN F4 fun _ _ _ _ _ _ us hl => match us, hl with | [_, _], _ => rfl)
  have T5 : TD K mg "join_blocks" s_join_blocks ["division", "places"] _ fd5 := td_of F5 g5 (FunD.bindsN F5 fun _ _ _ _ _ _ us hl => match us, hl with | [_, _], _ => rfl)
  have T6 : TD K mg "heads_of_blocks" s_heads_of_blocks ["census", "blocks"] _ fd6 := td_of F6 g6 (FunD.bindsN F6 fun _ _ _ _ _ _ us hl => match us, hl with | [_, _], _ => rfl)
  have T7 : TD K mg "fault_of_join" s_fault_of_join ["region", "census", "division", "line"] _ fd7 := td_of F7 g7 (FunD.bindsN F7 fun _ _ _ _ _ _ us hl => match us, hl with | [_, _, _, _], _ => rfl)
  have T8 : TD K mg "fault_of_stops" s_fault_of_stops ["villages", "stops"] _ fd8 := td_of F8 g8 (FunD.bindsN F8 fun _ _ _ _ _ _ us hl => match us, hl with | [_, _], _ => rfl)
  have T9 : TD K mg "fault_of_line" s_fault_of_line ["villages", "stops", "number"] _ fd9 := td_of F9 g9 (FunD.bindsN F9 fun _ _ _ _ _ _ us hl => match us, hl with | [_, _, _], _ => rfl)
  have T10 : TD K mg "is_together" s_is_together ["division", "party"] _ fd10 := td_of F10 g10 (FunD.bindsN F10 fun _ _ _ _ _ _ us hl => match us, hl with | [_, _], _ => rfl)
  have T11 : TD K mg "fault_of_member" s_fault_of_member ["region", "census", "division", "lines", "line"] _ fd11 := td_of F11 g11 (FunD.bindsN F11 fun _ _ _ _ _ _ us hl => match us, hl with | [_, _, _, _, _], _ => rfl)
  have T12 : TD K mg "fault_of_row" s_fault_of_row ["region", "census", "party", "lines", "row"] _ fd12 := td_of F12 g12 (FunD.bindsN F12 fun _ _ _ _ _ _ us hl => match us, hl with | [_, _, _, _, _], _ => rfl)
  have T13 : TD K mg "leaks" s_leaks ["region", "census", "division", "line"] _ fd13 := td_of F13 g13 (FunD.bindsN F13 fun _ _ _ _ _ _ us hl => match us, hl with | [_, _, _, _], _ => rfl)
  have T14 : TD K mg "fault_of_split" s_fault_of_split ["region", "census", "party", "lines", "division"] _ fd14 := td_of F14 g14 (FunD.bindsN F14 fun _ _ _ _ _ _ us hl => match us, hl with | [_, _, _, _, _], _ => rfl)
  have T15 : TD K mg "fault_of_holding" s_fault_of_holding ["region", "census", "party", "lines", "paper"] _ fd15 := td_of F15 g15 (FunD.bindsN F15 fun _ _ _ _ _ _ us hl => match us, hl with | [_, _, _, _, _], _ => rfl)
  have T16 : TD K mg "_law_pool" s_law_pool ["script"] _ fd16 := td_of F16 g16 (FunD.bindsN F16 fun _ _ _ _ _ _ us hl => match us, hl with | [_], _ => rfl)
  have T17 : TD K mg "_law_draw" s_law_draw ["pool", "many"] _ fd17 := td_of F17 g17 (FunD.bindsN F17 fun _ _ _ _ _ _ us hl => match us, hl with | [_, _], _ => rfl)
  have T18 : TD K mg "_law_stops" s_law_stops ["pool", "villages", "widest"] _ fd18 := td_of F18 g18 (FunD.bindsN F18 fun _ _ _ _ _ _ us hl => match us, hl with | [_, _, _], _ => rfl)
  have T19 : TD K mg "_law_great" s_law_great ["pool", "top"] _ fd19 := td_of F19 g19 (FunD.bindsN F19 fun _ _ _ _ _ _ us hl => match us, hl with | [_, _], _ => rfl)
  have T20 : TD K mg "_law_mixed_row" s_law_mixed_row ["pool", "many"] _ fd20 := td_of F20 g20 (FunD.bindsN F20 fun _ _ _ _ _ _ us hl => match us, hl with | [_, _], _ => rfl)
  have T21 : TD K mg "_law_labels" s_law_labels ["villages", "lines", "census"] _ fd21 := td_of F21 g21 (FunD.bindsN F21 fun _ _ _ _ _ _ us hl => match us, hl with | [_, _, _], _ => rfl)
  have T22 : TD K mg "_law_blocks" s_law_blocks ["labels"] _ fd22 := td_of F22 g22 (FunD.bindsN F22 fun _ _ _ _ _ _ us hl => match us, hl with | [_], _ => rfl)
  have T23 : TD K mg "_law_same" s_law_same ["got", "due"] _ fd23 := td_of F23 g23 (FunD.bindsN F23 fun _ _ _ _ _ _ us hl => match us, hl with | [_, _], _ => rfl)
  have T24 : TD K mg "_law_parting" s_law_parting ["pool", "villages", "labels"] _ fd24 := td_of F24 g24 (FunD.bindsN F24 fun _ _ _ _ _ _ us hl => match us, hl with | [_, _, _], _ => rfl)
  have T25 : TD K mg "_law_is_division" s_law_is_division ["villages", "blocks"] _ fd25 := td_of F25 g25 (FunD.bindsN F25 fun _ _ _ _ _ _ us hl => match us, hl with | [_, _], _ => rfl)
  have T26 : TD K mg "_law_marks" s_law_marks ["villages", "blocks"] _ fd26 := td_of F26 g26 (FunD.bindsN F26 fun _ _ _ _ _ _ us hl => match us, hl with | [_, _], _ => rfl)
  have T27 : TD K mg "_law_bent" s_law_bent ["pool", "villages", "blocks"] _ fd27 := td_of F27 g27 (FunD.bindsN F27 fun _ _ _ _ _ _ us hl => match us, hl with | [_, _, _], _ => rfl)
  have T28 : TD K mg "_law_lines_by" s_law_lines_by ["pool", "villages", "census", "many", "widest", "top"] _ fd28 := td_of F28 g28 (FunD.bindsN F28 fun _ _ _ _ _ _ us hl => match us, hl with | [_, _, _, _, _, _], _ => rfl)
  have T29 : TD K mg "_law_party" s_law_party ["pool", "villages"] _ fd29 := td_of F29 g29 (FunD.bindsN F29 fun _ _ _ _ _ _ us hl => match us, hl with | [_, _], _ => rfl)
  have T30 : TD K mg "_law_county" s_law_county ["pool", "most"] _ fd30 := td_of F30 g30 (FunD.bindsN F30 fun _ _ _ _ _ _ us hl => match us, hl with | [_, _], _ => rfl)
  have T31 : TD K mg "_law_some_lines" s_law_some_lines ["lines", "row"] _ fd31 := td_of F31 g31 (FunD.bindsN F31 fun _ _ _ _ _ _ us hl => match us, hl with | [_, _], _ => rfl)
  have T32 : TD K mg "_law_together" s_law_together ["labels", "party"] _ fd32 := td_of F32 g32 (FunD.bindsN F32 fun _ _ _ _ _ _ us hl => match us, hl with | [_, _], _ => rfl)
  have T33 : TD K mg "_law_row_fault" s_law_row_fault ["villages", "lines", "census", "party", "chosen", "row"] _ fd33 := td_of F33 g33 (FunD.bindsN F33 fun _ _ _ _ _ _ us hl => match us, hl with | [_, _, _, _, _, _], _ => rfl)
  have T34 : TD K mg "_law_split_fault" s_law_split_fault ["villages", "lines", "census", "party", "chosen", "blocks"] _ fd34 := td_of F34 g34 (FunD.bindsN F34 fun _ _ _ _ _ _ us hl => match us, hl with | [_, _, _, _, _, _], _ => rfl)
  have T35 : TD K mg "_law_joining" s_law_joining ["pool", "villages", "lines", "census", "chosen"] _ fd35 := td_of F35 g35 (FunD.bindsN F35 fun _ _ _ _ _ _ us hl => match us, hl with | [_, _, _, _, _], _ => rfl)
  have T36 : TD K mg "_law_rows" s_law_rows ["pool", "villages", "lines", "census", "chosen"] _ fd36 := td_of F36 g36 (FunD.bindsN F36 fun _ _ _ _ _ _ us hl => match us, hl with | [_, _, _, _, _], _ => rfl)
  have T37 : TD K mg "_law_splits" s_law_splits ["pool", "villages", "lines", "census", "chosen"] _ fd37 := td_of F37 g37 (FunD.bindsN F37 fun _ _ _ _ _ _ us hl => match us, hl with | [_, _, _, _, _], _ => rfl)
  have T38 : TD K mg "_law_asked" s_law_asked ["land", "people", "party", "chosen", "word", "material", "due"] _ fd38 := td_of F38 g38 (FunD.bindsN F38 fun _ _ _ _ _ _ us hl => match us, hl with | [_, _, _, _, _, _, _], _ => rfl)
  obtain ⟨fd40, F40⟩ := c.def_ 40 (d := D40) rfl
  have gc_Region := He.glo_ok X G (c.fact 59 (f := .glo "Region") rfl)
  obtain ⟨fd41, F41⟩ := c.def_ 41 (d := D41) rfl
  have gc_BadDivision := He.glo_ok X G (c.fact 60 (f := .glo "BadDivision") rfl)
  have rg_cls := He.cls_ok (c.fact 61 (f := .cls "Region") rfl)
  have rg_no1 := He.noat_ok (c.fact 62 (f := .noat "Region" "villages") rfl)
  have rg_no2 := He.noat_ok (c.fact 63 (f := .noat "Region" "lines") rfl)
  have rg_mkr := He.mkr_ok (c.fact 64 (f := .mkr "Region") rfl)
  have e := hfa.symm.trans g39
  cases e
  have b := FunD.bindsA (ps := ["script"]) F39 fun _ _ _ _ _ _ us hl => match us, hl with | [_], _ => rfl
  refine ⟨fd39, fun s v => b s [v] rfl, fun base _ _ => ?_⟩
  have B : Blt ⟨P, w, K, mg, base, M0⟩ := ⟨m_len, m_sum, m_any, m_all, m_sorted, m_list, m_tuple, m_set, m_max, m_min, m_abs, m_int, m_range, m_isinstance, m_enumerate, m_zip, m_reversed, m_bool, m_str⟩
  have Cl : ClF ⟨P, w, K, mg, base, M0⟩ "Region" ["villages", "lines"] := ⟨_, gc_Region, rg_cls, fun f hf => by
    rcases List.mem_cons.mp hf with rfl | hf
    · exact rg_no1
    · rw [List.mem_singleton.mp hf]; exact rg_no2⟩
  have Bd : BdF ⟨P, w, K, mg, base, M0⟩ := bd_of ce gc_BadDivision F41 (FunD.bindsN F41 fun _ _ _ _ _ _ us hl => match us, hl with | [_, _], _ => rfl)
  have f_fault_of_stops : FD_fault_of_stops ⟨P, w, K, mg, base, M0⟩ := fd_fault_of_stops B  T8
  have f_fault_of_line : FD_fault_of_line ⟨P, w, K, mg, base, M0⟩ := fd_fault_of_line B f_fault_of_stops T9
  have f_Region : FI_Region ⟨P, w, K, mg, base, M0⟩ := fi_Region B f_fault_of_line gc_Region rg_mkr rg_cls rg_no1 rg_no2 (He5.fun_of F40) (FunD.bindsN F40 fun _ _ _ _ _ _ us hl => match us, hl with | [_, _, _], _ => rfl)
  have f_law_same : FS ⟨P, w, K, mg, base, M0⟩ := fs_of B fun n => same_all T23 m_isinstance m_int m_bool m_str m_list m_tuple m_len m_range n
  have f_heads_of_blocks : FD_heads_of_blocks ⟨P, w, K, mg, base, M0⟩ := fd_heads_of_blocks B  T6
  have f_touched_by : FD_touched_by ⟨P, w, K, mg, base, M0⟩ := fd_touched_by B  T4
  have f_fault_of_join : FD_fault_of_join ⟨P, w, K, mg, base, M0⟩ := fd_fault_of_join B Cl f_heads_of_blocks f_touched_by T7
  have f_fault_of_member : FD_fault_of_member ⟨P, w, K, mg, base, M0⟩ := fd_fault_of_member B Cl f_fault_of_join T11
  have f_is_together : FD_is_together ⟨P, w, K, mg, base, M0⟩ := fd_is_together B f_touched_by T10
  have f_ordered : FD_ordered ⟨P, w, K, mg, base, M0⟩ := fd_ordered B  T0
  have f_join_blocks : FD_join_blocks ⟨P, w, K, mg, base, M0⟩ := fd_join_blocks B f_ordered T5
  have f_singles : FD_singles ⟨P, w, K, mg, base, M0⟩ := fd_singles B  T3
  have f_fault_of_row : FD_fault_of_row ⟨P, w, K, mg, base, M0⟩ := fd_fault_of_row B Cl f_fault_of_member f_is_together f_join_blocks f_singles f_touched_by T12
  have Ti : FD_tidy ⟨P, w, K, mg, base, M0⟩ := fd_tidy B f_ordered Bd T1
  have f_is_division : FD_is_division ⟨P, w, K, mg, base, M0⟩ := fd_is_division B Bd Ti T2
  have f_leaks : FD_leaks ⟨P, w, K, mg, base, M0⟩ := fd_leaks B Cl f_heads_of_blocks f_touched_by T13
  have f_fault_of_split : FD_fault_of_split ⟨P, w, K, mg, base, M0⟩ := fd_fault_of_split B Cl f_is_division f_is_together f_leaks T14
  have f_fault_of_holding : FD_fault_of_holding ⟨P, w, K, mg, base, M0⟩ := fd_fault_of_holding B f_fault_of_row f_fault_of_split T15
  have f_law_asked : FD_law_asked ⟨P, w, K, mg, base, M0⟩ := fd_law_asked B f_law_same f_fault_of_holding T38
  have f_law_draw : FD_draw ⟨P, w, K, mg, base, M0⟩ := fd_draw_of (df_draw T17 m_len m_int)
  have f_law_great : FD_law_great ⟨P, w, K, mg, base, M0⟩ := fd_law_great B f_law_draw T19
  have f_law_labels : FD_law_labels ⟨P, w, K, mg, base, M0⟩ := fd_law_labels B  T21
  have f_law_stops : FD_law_stops ⟨P, w, K, mg, base, M0⟩ := fd_law_stops B f_law_draw T18
  have f_law_lines_by : FD_law_lines_by ⟨P, w, K, mg, base, M0⟩ := fd_law_lines_by B f_law_draw f_law_great f_law_labels f_law_stops T28
  have f_law_mixed_row : FD_law_mixed_row ⟨P, w, K, mg, base, M0⟩ := fd_law_mixed_row B f_law_draw T20
  have f_law_party : FD_law_party ⟨P, w, K, mg, base, M0⟩ := fd_law_party B f_law_draw f_law_mixed_row T29
  have f_law_county : FD_law_county ⟨P, w, K, mg, base, M0⟩ := fd_law_county B f_law_draw f_law_great f_law_lines_by f_law_party T30
  have f_law_together : FD_law_together ⟨P, w, K, mg, base, M0⟩ := fd_law_together B  T32
  have f_law_row_fault : FD_law_row_fault ⟨P, w, K, mg, base, M0⟩ := fd_law_row_fault B f_law_together T33
  have f_law_joining : FD_law_joining ⟨P, w, K, mg, base, M0⟩ := fd_law_joining B f_law_draw T35
  have f_law_rows : FD_law_rows ⟨P, w, K, mg, base, M0⟩ := fd_law_rows B f_law_draw f_law_joining T36
  have f_law_is_division : FD_law_is_division ⟨P, w, K, mg, base, M0⟩ := fd_law_is_division B  T25
  have f_law_marks : FD_law_marks ⟨P, w, K, mg, base, M0⟩ := fd_law_marks B  T26
  have f_law_split_fault : FD_law_split_fault ⟨P, w, K, mg, base, M0⟩ := fd_law_split_fault B f_law_is_division f_law_marks f_law_together T34
  have f_law_bent : FD_law_bent ⟨P, w, K, mg, base, M0⟩ := fd_law_bent B f_law_draw T27
  have f_law_blocks : FD_law_blocks ⟨P, w, K, mg, base, M0⟩ := fd_law_blocks B  T22
  have f_law_parting : FD_law_parting ⟨P, w, K, mg, base, M0⟩ := fd_law_parting B f_law_draw T24
  have f_law_some_lines : FD_law_some_lines ⟨P, w, K, mg, base, M0⟩ := fd_law_some_lines B  T31
  have f_law_splits : FD_law_splits ⟨P, w, K, mg, base, M0⟩ := fd_law_splits B f_law_bent f_law_blocks f_law_labels f_law_parting f_law_some_lines T37
  have d_pool := df_pool (P := P) (w := w) (base := base) T16 m_abs m_int m_sum
  exact law_entry (k := 6) (He5.fun_of F39) d_pool (jb_law B f_Region f_law_asked f_law_county f_law_draw f_law_row_fault f_law_rows f_law_split_fault f_law_splits) S79.e_law.run
end DW
open PySem PySem.W PySem.Calls PyProof.Rows
theorem PySem.Challenge.cw_parishlines_k79_fault_of_holding_holds : PySem.Challenge.rw_parishlines_k79_fault_of_holding.Holds := by
  w_on; o_law
  refine HandSHeadRun.head_any (r := DW.rowO) (q := view DW.rowO.prog [51]) (H := DW.hkE) (ob := DW.obE) (M := 6000) (loose := DW.looseL) (d := HandSHeadRun.topDef DW.rowO.prog 51) (kwd := []) DW.obE_eq (by kernel_rfl) (fun s => by kernel_rfl) DW.runE (by kernel_rfl) (by kernel_rfl) (by kernel_rfl) (by rfl) (by first | assumption | decide +kernel) (by decide +kernel) ⟨rfl, rfl, rfl, rfl, rfl, by decide +kernel⟩ ?hw ?hc
  case hw => w_witness2
  case hc =>
    refine L2.walk_ofE (l := PySem.Challenge.rw_parishlines_k79_fault_of_holding) (n := 63) (k := 8) (x := "script") (CX := L2.CX0) rfl (by decide) (by kernel_rfl) ⟨rfl, by decide, by decide⟩ ?F (fun _ _ _ _ z => z)
    intro w mg fa h Y G hmg0
    obtain ⟨K, KX, c, ce⟩ := Y
    have hmg : mg ("law" : PySem.Str) = some (.ref fa) := by
      have e : (HandSHeadRun.topDef DW.rowO.prog 51).name = ("law" : PySem.Str) := by kernel_rfl
      rw [← e]; exact hmg0
    obtain ⟨fd, hb, hF⟩ := DW.facts79 (P := PySem.Challenge.rw_parishlines_k79_fault_of_holding.prog) (w := w) KX G hmg c ce
    exact ⟨K, fd, PL.SpLaw K, KX, hb, fun H a ns hl _ hS => ⟨a, ns, rfl, hS, fun _ => rfl⟩, hF⟩
