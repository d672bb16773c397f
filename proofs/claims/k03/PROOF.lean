import PyProof.Rows.All
import Wide.All
import OpenK.AllK
import Wide.FinOn
import HandS.ForMost
import HandS.ForExc
import HandS.Defaults
import HandS.IsInst
import HandS.TryMany
import HandS.ExcIs
import HandS.SetFor
import HandS.Conv
import HandS.SortInts
import HandS.SortRule
import HandS.SortKw
import HandS.Deep
import HandS.More
import HandS.Evl
import HandS.Head0
import HandS.Head1
import HandS.Head2
import HandS.HeadEnd
import HandS.HeadHook1
import HandS.HeadHook2
import PySem.Challenge.RW_slabroom_k03_a_shelf
set_option Elab.async false
set_option linter.all false
set_option maxRecDepth 100000
set_option maxHeartbeats 4000000
/-! The prelude of every claim of this seat: defs, methods, classes and errors of the text in one word each. -/
namespace Sb
open PySem PySem.Spec PyProof.Rows L2

abbrev FnP (K : PySem.W.Frag) (x qual : Str) (st : Stmt) (f : Addr) (fd : FuncData) : Prop :=
  L2.FunD K x qual (defArgs st) (defBody st) (defScope st) [] [] f fd
/-- st stands as the module's def x -/
def Dd (K : PySem.W.Frag) (mg : Str → Option Value) (x : Str) (st : Stmt) : Prop :=
  ∃ f fd, mg x = some (.ref f) ∧ FnP K x x st f fd
/-- st stands as the method m of the class at C -/
def Dm (K : PySem.W.Frag) (C : Addr) (m qual : Str) (st : Stmt) : Prop :=
  ∃ f fd, Meth K C m f ∧ FnP K m qual st f fd
/-- st is what makes the instances of the class at C -/
def Di (K : PySem.W.Frag) (C : Addr) (qual : Str) (st : Stmt) : Prop :=
  ∃ f fd, Mk K C f ∧ FnP K "__init__" qual st f fd

section
variable (P : Program) (w : World) (K : PySem.W.Frag) (mg : Str → Option Value) (base : Heap)
/-- the module's def x keeps the promise sp, by at most level k -/
def Df (k : Nat) (x : Str) (ps : List Str) (sp : Sp) : Prop :=
  ∃ f fd, mg x = some (.ref f) ∧ PySem.W.keepIn K (.ref f) = true ∧ FnOk P w K mg base (L2.CX P w) k f fd ps sp ∧ Binds K fd ps []
def Mf (k : Nat) (C : Addr) (m : Str) (ps : List Str) (sp : Sp) : Prop :=
  ∃ f fd, Meth K C m f ∧ FnOk P w K mg base (L2.CX P w) k f fd ps sp ∧ Binds K fd ps []
def If_ (k : Nat) (C : Addr) (ps : List Str) (sp : Sp) : Prop :=
  ∃ f fd, Mk K C f ∧ FnOk P w K mg base (L2.CX P w) k f fd ps sp ∧ Binds K fd ps []
end
/-- how the arguments bind to the parameters -/
def BindOk (ps : List Str) (x qual : Str) (st : Stmt) : Prop :=
  ∀ (kV doc pm : Value) (an : Option Addr) (cdv ct : Value) (us : List Value), us.length = ps.length →
    bindArgs (PySem.W.fnOf x qual (defArgs st) (defBody st) (defScope st) .none kV doc pm an cdv ct) ⟨us, []⟩ = pure (ps.zip us)
/-- what is to be shown of a def's body -/
def BodyOk (P : Program) (w : World) (K : PySem.W.Frag) (mg : Str → Option Value) (base : Heap) (k : Nat) (N : List Str) (qual : Str) (st : Stmt) (sp : Sp) : Prop :=
  ∀ (f : Addr) (cdv : Value) (A : Around) (outer : List Env) (s : Shared) (H : Hp) (vs : List V) (Q : VK) (E : XK),
    Room k (A.deeper (envOfC qual (defScope st) s.heap.objs.size f cdv)) → sp vs H Q E →
      ∃ t, PSs (cxOf (L2.CX P w) P w K mg base N qual (defScope st) f cdv A outer s H E) (defBody st) t ∧ t { nx := fun _ H' => Q .non H', rt := Q } (start N vs) H
section
variable {P : Program} {w : World} {K : PySem.W.Frag} {mg : Str → Option Value} {base : Heap} {x m qual : Str} {st : Stmt} {N ps : List Str} {k : Nat} {sp : Sp} {C : Addr}
theorem Dd.ok (D : Dd K mg x st) (S : FnScope N ps (defScope st)) (b : BindOk ps x x st) (len : ∀ vs H Q E, sp vs H Q E → vs.length = ps.length) (body : BodyOk P w K mg base k N x st sp) : Df P w K mg base (k + 1) x ps sp := by
  obtain ⟨f, fd, g, F⟩ := D
  exact ⟨f, fd, g, F.kp, L2.FunD.ok F S len (body f), L2.FunD.bindsN F b⟩
theorem Dm.ok (D : Dm K C m qual st) (S : FnScope N ps (defScope st)) (b : BindOk ps m qual st) (len : ∀ vs H Q E, sp vs H Q E → vs.length = ps.length) (body : BodyOk P w K mg base k N qual st sp) : Mf P w K mg base (k + 1) C m ps sp := by
  obtain ⟨f, fd, g, F⟩ := D
  exact ⟨f, fd, g, L2.FunD.ok F S len (body f), L2.FunD.bindsN F b⟩
theorem Di.ok (D : Di K C qual st) (S : FnScope N ps (defScope st)) (b : BindOk ps "__init__" qual st) (len : ∀ vs H Q E, sp vs H Q E → vs.length = ps.length) (body : BodyOk P w K mg base k N qual st sp) : If_ P w K mg base (k + 1) C ps sp := by
  obtain ⟨f, fd, g, F⟩ := D
  exact ⟨f, fd, g, L2.FunD.ok F S len (body f), L2.FunD.bindsN F b⟩
end

/-! ### calls -/
section
variable {X : Cx} {k j : Nat} {x m : Str} {ps : List Str} {sp : Sp} {C : Addr} {e o : Expr} {es : List Expr} {t : TA} {ta : TE} {p pos apos : Pos}
/-- f(e, ..), nothing let out -/
theorem pe_df (D : Df X.prog X.w X.K X.mg X.base k x ps sp) (hr : Room j X.A) (hk : k ≤ j) (hg : Gl X x) (ha : PA X (e :: es) t) (hdb : (x == ("__debug__" : Str)) = false := by decide)
    (he : starEach (e :: es) X.env = (false, eval e X.env) :: starEach es X.env := by rfl) (hpl : (backTo pos (starEach es X.env)).any (·.1) = false := by rfl) : PE X (.Call (.Name x p) (e :: es) [] pos) (tCall sp [] E0 t) := by
  obtain ⟨f, fd, g, kp, F, b⟩ := D
  exact pe_call F (hr.mono hk) hg g kp b .nil passL ha hdb he hpl
/-- f(e, ..) that may raise -/
theorem pe_dfS {W : WX} (D : Df X.prog X.w X.K X.mg X.base k x ps sp) (hr : Room j X.A) (hk : k ≤ j) (hg : Gl X x) (tk : Takes X W) (ha : PA X (e :: es) t) (hdb : (x == ("__debug__" : Str)) = false := by decide)
    (he : starEach (e :: es) X.env = (false, eval e X.env) :: starEach es X.env := by rfl) (hpl : (backTo pos (starEach es X.env)).any (·.1) = false := by rfl) : PE X (.Call (.Name x p) (e :: es) [] pos) (tCallS sp (WE W) t) := by
  obtain ⟨f, fd, g, kp, F, b⟩ := D
  exact pe_callS F (hr.mono hk) hg g kp b (fun σ => passAt tk σ) ha hdb he hpl
/-- o.m(e, ..), nothing let out -/
theorem pe_mf {pl : Sem Bool} (D : Mf X.prog X.w X.K X.mg X.base k C m ps sp) (c : Cls X.K C) (hr : Room j X.A) (hk : k ≤ j) (he : PE X o ta) (ha : PA X (e :: es) t)
    (hst : starEach (e :: es) X.env = (false, eval e X.env) :: starEach es X.env := by rfl) (hpl : (backTo pos (starEach es X.env)).any (·.1) = false := by rfl)
    (ht : eval (.Call (.Attribute o m apos) (e :: es) [] pos) X.env = (do let ov ← eval o X.env; standAt apos.atName; let (f, first) ← holding [ov] (getMethod ov m pl); callWith pos f first (backTo pos (starEach (e :: es) X.env)) (backToKw pos (keywordEach [] X.env))) := by rfl) :
    PE X (.Call (.Attribute o m apos) (e :: es) [] pos) (tMeth C m sp [] E0 ta t) := by
  obtain ⟨f, fd, g, F, b⟩ := D
  exact pe_meth he c g F (hr.mono hk) b .nil passL ha hst hpl ht
theorem pe_mf0 {pl : Sem Bool} (D : Mf X.prog X.w X.K X.mg X.base k C m ps sp) (c : Cls X.K C) (hr : Room j X.A) (hk : k ≤ j) (he : PE X o ta)
    (ht : eval (.Call (.Attribute o m apos) [] [] pos) X.env = (do let ov ← eval o X.env; standAt apos.atName; let (f, first) ← holding [ov] (getMethod ov m pl); callWith pos f first (backTo pos (starEach [] X.env)) (backToKw pos (keywordEach [] X.env))) := by rfl) :
    PE X (.Call (.Attribute o m apos) [] [] pos) (tMeth C m sp [] E0 ta tNil) := by
  obtain ⟨f, fd, g, F, b⟩ := D
  exact pe_meth0 he c g F (hr.mono hk) b .nil passL ht
/-- o.m(e, ..) that may raise -/
def tMethE (C : Addr) (m : Str) (sp : Sp) (E : L2.St → XK) (ta : TE) (t : TA) : TE := fun σ H Q =>
  ta σ H fun x H1 => ∃ a dx fs, x = .ref a ∧ H1 a = some (.ins C dx fs) ∧ fs.lookup m = none ∧ t σ H1 fun vs H2 => sp (x :: vs) H2 Q (E σ)
theorem pe_mfS {W : WX} {pl : Sem Bool} (D : Mf X.prog X.w X.K X.mg X.base k C m ps sp) (c : Cls X.K C) (hr : Room j X.A) (hk : k ≤ j) (tk : Takes X W) (he : PE X o ta) (ha : PA X (e :: es) t)
    (hst : starEach (e :: es) X.env = (false, eval e X.env) :: starEach es X.env := by rfl) (hpl : (backTo pos (starEach es X.env)).any (·.1) = false := by rfl)
    (ht : eval (.Call (.Attribute o m apos) (e :: es) [] pos) X.env = (do let ov ← eval o X.env; standAt apos.atName; let (f, first) ← holding [ov] (getMethod ov m pl); callWith pos f first (backTo pos (starEach (e :: es) X.env)) (backToKw pos (keywordEach [] X.env))) := by rfl) :
    PE X (.Call (.Attribute o m apos) (e :: es) [] pos) (tMethE C m sp (WE W) ta t) := by
  obtain ⟨f, fd, g, F, b⟩ := D
  constructor
  intro pins s σ H Q I h
  refine PySem.W.methodCall_KW (pl := pl) (thn (he.run pins s σ H _ I h) ?_) ht
  rintro u s1 ⟨x, H1, I1, rx, a, dx, fs, ex, ea, l, q⟩
  subst ex
  obtain rfl : u = Value.ref a := rx
  apply getmeth_ok I1 ea c g l
  refine PySem.W.callWith_K (first := [.ref a]) (h₀ := X.base) I.ok.mod.kin g.kp ?_ hst hpl
  refine thn (ha.run pos pins s1 σ H1 _ I1 q) ?_
  rintro us s2 ⟨vs, H2, I2, r, q2⟩
  refine ⟨I2.kIn, ?_⟩
  exact run_fnS (us := .ref a :: us) (vs := .ref a :: vs) F (hr.mono hk) b (fun pins H s e s' I c => tk e s' (XE.of_call I (fun _ _ _ h => h) c)) I2 (.cons rfl r) q2
theorem pe_mfS0 {W : WX} {pl : Sem Bool} (D : Mf X.prog X.w X.K X.mg X.base k C m ps sp) (c : Cls X.K C) (hr : Room j X.A) (hk : k ≤ j) (tk : Takes X W) (he : PE X o ta)
    (ht : eval (.Call (.Attribute o m apos) [] [] pos) X.env = (do let ov ← eval o X.env; standAt apos.atName; let (f, first) ← holding [ov] (getMethod ov m pl); callWith pos f first (backTo pos (starEach [] X.env)) (backToKw pos (keywordEach [] X.env))) := by rfl) :
    PE X (.Call (.Attribute o m apos) [] [] pos) (tMethE C m sp (WE W) ta tNil) := by
  obtain ⟨f, fd, g, F, b⟩ := D
  constructor
  intro pins s σ H Q I h
  refine PySem.W.methodCall_KW (pl := pl) (thn (he.run pins s σ H _ I h) ?_) ht
  rintro u s1 ⟨x, H1, I1, rx, a, dx, fs, ex, ea, l, q⟩
  subst ex
  obtain rfl : u = Value.ref a := rx
  apply getmeth_ok I1 ea c g l
  exact PySem.W.callWith_K0 (first := [.ref a]) I1.kIn g.kp (run_fnS (us := [.ref a]) (vs := [.ref a]) F (hr.mono hk) b (fun pins H s e s' I c => tk e s' (XE.of_call I (fun _ _ _ h => h) c)) I1 (.cons rfl .nil) q)
/-- C(e, ..), nothing let out -/
theorem pe_if (D : If_ X.prog X.w X.K X.mg X.base k C ps sp) (hm : X.mg x = some (.ref C)) (hr : Room j X.A) (hk : k + 1 ≤ j) (hg : Gl X x) (ha : PA X (e :: es) t) (hdb : (x == ("__debug__" : Str)) = false := by decide)
    (he : starEach (e :: es) X.env = (false, eval e X.env) :: starEach es X.env := by rfl) (hpl : (backTo pos (starEach es X.env)).any (·.1) = false := by rfl) : PE X (.Call (.Name x p) (e :: es) [] pos) (tMake C sp [] E0 t) := by
  obtain ⟨f, fd, g, F, b⟩ := D
  exact pe_make g F (hr.mono hk) hg hm b .nil passL ha hdb he hpl
end

/-! ### own errors -/
structure Ec (K : PySem.W.Frag) (mg : Str → Option Value) (x : Str) (C : Addr) : Prop where
  g : mg x = some (.ref C)
  x : PySem.W.excIn K C He.veBase "ValueError.__new__" = true
  k : PySem.W.keepIn K (.ref C) = true
  b : PySem.W.subIn K (.ref C) (.type "BaseException") = some true
  t : PySem.W.typeIn K (.ref C) = some (.type "type")
/-- raise X('m') -/
theorem ps_err {X : Cx} {x m : Str} {C : Addr} {j : Nat} {p p2 pos pos' : Pos} {W : WX} (hc : X.calm = true) (T : Ec X.K X.mg x C) (hg : Gl X x) (tk : Takes X W) (hdb : (x == ("__debug__" : Str)) = false := by decide) :
    PS X (.Raise (some (.Call (.Name x p) [.Constant (.str m) j p2] [] pos)) none pos') (fun _ σ H => W (.ref C) none σ H) :=
  ps_raise hc tk (pmk_own PySem.F.excBase_ValueError T.x T.g T.k (raises_own T.b T.t) hg hdb)

/-! ### small words of tests -/
theorem iteD {c : Prop} [Decidable c] {A B : Prop} (h1 : c → A) (h2 : ¬ c → B) : if decide c = true then A else B := by
  by_cases h : c
  · rw [decide_eq_true h]; exact iteT (h1 h)
  · rw [decide_eq_false h]; exact iteF (h2 h)
theorem iteND {c : Prop} [Decidable c] {A B : Prop} (h1 : ¬ c → A) (h2 : c → B) : if (!decide c) = true then A else B := by
  by_cases h : c
  · rw [decide_eq_true h]; exact iteF (h2 h)
  · rw [decide_eq_false h]; exact iteT (h1 h)
theorem iteB {b : Bool} {A B : Prop} (h1 : b = true → A) (h2 : b = false → B) : if b = true then A else B := by
  cases b
  · exact iteF (h2 rfl)
  · exact iteT (h1 rfl)
theorem iteNB {b : Bool} {A B : Prop} (h1 : b = false → A) (h2 : b = true → B) : if (!b) = true then A else B := by
  cases b
  · exact iteT (h1 rfl)
  · exact iteF (h2 rfl)
theorem ixN_at {n j : Nat} (h : j < n) : ixN n (j : Int) = some j := by
  unfold ixN
  rw [if_pos (Int.natCast_nonneg j), if_pos (Int.ofNat_lt.mpr h), Int.toNat_natCast]
/-! ### data -/
structure Shp (d : PyData) (n : Nat) : Prop where
  lay : d.canLay0 = true
  dep : d.depth ≤ n
theorem Shp.int (i : Int) : Shp (.int i) 0 := ⟨rfl, by simp [PyData.depth]⟩
theorem Shp.bool (b : Bool) : Shp (.bool b) 0 := ⟨rfl, by simp [PyData.depth]⟩
theorem canAll : ∀ {ds : List PyData} {n : Nat}, (∀ d ∈ ds, Shp d n) → PyData.canLayAll0 ds = true ∧ PyData.depthAll ds ≤ n
  | [], _, _ => ⟨rfl, by simp [PyData.depthAll]⟩
  | d :: ds, n, h => by
    have h1 := h d List.mem_cons_self
    have h2 := canAll (ds := ds) (n := n) fun x hx => h x (List.mem_cons_of_mem _ hx)
    refine ⟨?_, ?_⟩
    · show (d.canLay0 && PyData.canLayAll0 ds) = true
      rw [h1.lay, h2.1]; rfl
    · simp only [PyData.depthAll]
      have := h1.dep
      have := h2.2
      omega
theorem Shp.list {ds : List PyData} {n : Nat} (h : ∀ d ∈ ds, Shp d n) : Shp (.list ds) (n + 1) := ⟨(canAll h).1, by simp only [PyData.depth]; have := (canAll h).2; omega⟩
theorem Shp.tuple {ds : List PyData} {n : Nat} (h : ∀ d ∈ ds, Shp d n) : Shp (.tuple ds) (n + 1) := ⟨(canAll h).1, by simp only [PyData.depth]; have := (canAll h).2; omega⟩
theorem Shp.shaped {d : PyData} {n : Nat} (h : Shp d n) (hn : n ≤ 64) : SeqAt.shaped d = true := by
  unfold SeqAt.shaped
  rw [h.lay, decide_eq_true (Nat.le_trans h.dep hn)]; rfl
theorem Shp.refl {d : PyData} {n : Nat} (h : Shp d n) : PyData.eqv d d = true := SeqAt.eqv_refl d h.lay
theorem dpAll_map {K : PySem.W.Frag} {H : Hp} {α : Type} (f : α → V) (g : α → PyData) : ∀ {l : List α}, (∀ x ∈ l, Dp K H (f x) (g x)) → DpAll K H (l.map f) (l.map g)
  | [], _ => .nil
  | x :: l, h => .cons (h x List.mem_cons_self) (dpAll_map f g fun y hy => h y (List.mem_cons_of_mem _ hy))
/-- a list of whole numbers as data -/
abbrev dInts (l : List Int) : PyData := .list (l.map .int)
theorem dp_ints {K : PySem.W.Frag} {H : Hp} {a : Addr} {l : List Int} (h : SqL K H a (l.map V.int)) : Dp K H (.ref a) (dInts l) := .lst h (dpAll_map V.int .int fun x _ => .int x)
theorem sh_ints (l : List Int) : Shp (dInts l) 1 := .list fun d hd => by
  obtain ⟨i, _, rfl⟩ := List.mem_map.mp hd
  exact .int i
/-- what is free behind the making of an instance was free ahead of it -/
theorem made_free {H : Hp} {x dx C t : Addr} (nx : H x = none) (nd : H dx = none) (ht : (upd (upd H dx (.own x)) x (.ins C dx [])) t = none) : H t = none := by
  cases q : H t with
  | none => rfl
  | some o =>
    rw [upd_ne (ne_of_none q nx), upd_ne (ne_of_none q nd), q] at ht
    cases ht
end Sb
namespace Sb
open PySem PySem.Spec PyProof.Rows L2
def top (i : Nat) : Stmt := PySem.Challenge.pw_slabroom_k03_a_shelf.main.body.getD i (.Pass ⟨0, 0, 0, 0⟩)
abbrev s_Shelf_init : Stmt := inClass (top 6) 0
theorem sc_Shelf_init : FnScope ["self", "page", "size", "slots"] ["self", "page", "size", "slots"] (defScope s_Shelf_init) := ⟨rfl, rfl, rfl, by decide +kernel, rfl, by decide +kernel, by decide +kernel⟩
theorem bi_Shelf_init : BindOk ["self", "page", "size", "slots"] "__init__" "Shelf.__init__" s_Shelf_init := fun _ _ _ _ _ _ us hl => match us, hl with | [_, _, _, _], _ => rfl
abbrev s_Shelf_out : Stmt := inClass (top 6) 1
theorem sc_Shelf_out : FnScope ["self"] ["self"] (defScope s_Shelf_out) := ⟨rfl, rfl, rfl, by decide +kernel, rfl, by decide +kernel, by decide +kernel⟩
theorem bi_Shelf_out : BindOk ["self"] "out" "Shelf.out" s_Shelf_out := fun _ _ _ _ _ _ us hl => match us, hl with | [_], _ => rfl
abbrev s_Shelf_free : Stmt := inClass (top 6) 2
theorem sc_Shelf_free : FnScope ["self", "slot"] ["self"] (defScope s_Shelf_free) := ⟨rfl, rfl, rfl, by decide +kernel, rfl, by decide +kernel, by decide +kernel⟩
theorem bi_Shelf_free : BindOk ["self"] "free" "Shelf.free" s_Shelf_free := fun _ _ _ _ _ _ us hl => match us, hl with | [_], _ => rfl
abbrev s_Shelf_is_out : Stmt := inClass (top 6) 4
theorem sc_Shelf_is_out : FnScope ["self", "slot"] ["self", "slot"] (defScope s_Shelf_is_out) := ⟨rfl, rfl, rfl, by decide +kernel, rfl, by decide +kernel, by decide +kernel⟩
theorem bi_Shelf_is_out : BindOk ["self", "slot"] "is_out" "Shelf.is_out" s_Shelf_is_out := fun _ _ _ _ _ _ us hl => match us, hl with | [_, _], _ => rfl
abbrev s_Shelf_take : Stmt := inClass (top 6) 5
theorem sc_Shelf_take : FnScope ["self", "slot"] ["self"] (defScope s_Shelf_take) := ⟨rfl, rfl, rfl, by decide +kernel, rfl, by decide +kernel, by decide +kernel⟩
theorem bi_Shelf_take : BindOk ["self"] "take" "Shelf.take" s_Shelf_take := fun _ _ _ _ _ _ us hl => match us, hl with | [_], _ => rfl
abbrev s_Shelf_give : Stmt := inClass (top 6) 6
theorem sc_Shelf_give : FnScope ["self", "slot"] ["self", "slot"] (defScope s_Shelf_give) := ⟨rfl, rfl, rfl, by decide +kernel, rfl, by decide +kernel, by decide +kernel⟩
theorem bi_Shelf_give : BindOk ["self", "slot"] "give" "Shelf.give" s_Shelf_give := fun _ _ _ _ _ _ us hl => match us, hl with | [_, _], _ => rfl
abbrev s_law_cell_at : Stmt := top 8
theorem sc_law_cell_at : FnScope ["_law_script", "_law_k"] ["_law_script", "_law_k"] (defScope s_law_cell_at) := ⟨rfl, rfl, rfl, by decide +kernel, rfl, by decide +kernel, by decide +kernel⟩
theorem bi_law_cell_at : BindOk ["_law_script", "_law_k"] "_law_cell_at" "_law_cell_at" s_law_cell_at := fun _ _ _ _ _ _ us hl => match us, hl with | [_, _], _ => rfl
abbrev s_law_whole : Stmt := top 9
theorem sc_law_whole : FnScope ["_law_found"] ["_law_found"] (defScope s_law_whole) := ⟨rfl, rfl, rfl, by decide +kernel, rfl, by decide +kernel, by decide +kernel⟩
theorem bi_law_whole : BindOk ["_law_found"] "_law_whole" "_law_whole" s_law_whole := fun _ _ _ _ _ _ us hl => match us, hl with | [_], _ => rfl
abbrev s_law_taken : Stmt := top 10
theorem sc_law_taken : FnScope ["_law_shelf"] ["_law_shelf"] (defScope s_law_taken) := ⟨rfl, rfl, rfl, by decide +kernel, rfl, by decide +kernel, by decide +kernel⟩
theorem bi_law_taken : BindOk ["_law_shelf"] "_law_taken" "_law_taken" s_law_taken := fun _ _ _ _ _ _ us hl => match us, hl with | [_], _ => rfl
abbrev s_law_given : Stmt := top 11
theorem sc_law_given : FnScope ["_law_shelf", "_law_slot"] ["_law_shelf", "_law_slot"] (defScope s_law_given) := ⟨rfl, rfl, rfl, by decide +kernel, rfl, by decide +kernel, by decide +kernel⟩
theorem bi_law_given : BindOk ["_law_shelf", "_law_slot"] "_law_given" "_law_given" s_law_given := fun _ _ _ _ _ _ us hl => match us, hl with | [_, _], _ => rfl
abbrev s_law_deed : Stmt := top 12
theorem sc_law_deed : FnScope ["_law_shelf", "_law_row", "_law_cell", "_law_slot", "_law_due", "_law_good"] ["_law_shelf", "_law_row", "_law_cell"] (defScope s_law_deed) := ⟨rfl, rfl, rfl, by decide +kernel, rfl, by decide +kernel, by decide +kernel⟩
theorem bi_law_deed : BindOk ["_law_shelf", "_law_row", "_law_cell"] "_law_deed" "_law_deed" s_law_deed := fun _ _ _ _ _ _ us hl => match us, hl with | [_, _, _], _ => rfl
abbrev s_law_stands : Stmt := top 13
theorem sc_law_stands : FnScope ["_law_shelf", "_law_row", "_law_kept", "_law_one", "_law_copy", "_law_free", "_law_slot", "_law_found", "_law_many", "_law_later"] ["_law_shelf", "_law_row", "_law_kept"] (defScope s_law_stands) := ⟨rfl, rfl, rfl, by decide +kernel, rfl, by decide +kernel, by decide +kernel⟩
theorem bi_law_stands : BindOk ["_law_shelf", "_law_row", "_law_kept"] "_law_stands" "_law_stands" s_law_stands := fun _ _ _ _ _ _ us hl => match us, hl with | [_, _, _], _ => rfl
abbrev s_law : Stmt := top 14
theorem sc_law : FnScope ["_law_script", "_law_page", "_law_size", "_law_slots", "_law_shelf", "_law_other", "_law_row", "_law_kept", "_law_cell"] ["_law_script"] (defScope s_law) := ⟨rfl, rfl, rfl, by decide +kernel, rfl, by decide +kernel, by decide +kernel⟩
theorem bi_law : BindOk ["_law_script"] "law" "law" s_law := fun _ _ _ _ _ _ us hl => match us, hl with | [_], _ => rfl
structure Ad where
  Shelf : Addr
  RoomError : Addr
  NoRoom : Addr
  NotOut : Addr
structure Tx (K : PySem.W.Frag) (mg : Str → Option Value) (A : Ad) : Prop where
  z_ValueError : mg "ValueError" = none
  z_bool : mg "bool" = none
  z_int : mg "int" = none
  z_isinstance : mg "isinstance" = none
  z_len : mg "len" = none
  z_list : mg "list" = none
  z_range : mg "range" = none
  e_RoomError : Ec K mg "RoomError" A.RoomError
  e_NoRoom : Ec K mg "NoRoom" A.NoRoom
  e_NotOut : Ec K mg "NotOut" A.NotOut
  x_NoRoom_NoRoom : PySem.W.exmOne K (.ref A.NoRoom) (.ref A.NoRoom) = some true
  x_NoRoom_NotOut : PySem.W.exmOne K (.ref A.NoRoom) (.ref A.NotOut) = some false
  x_NotOut_NoRoom : PySem.W.exmOne K (.ref A.NotOut) (.ref A.NoRoom) = some false
  x_NotOut_NotOut : PySem.W.exmOne K (.ref A.NotOut) (.ref A.NotOut) = some true
  c_Shelf : Cls K A.Shelf
  g_Shelf : mg "Shelf" = some (.ref A.Shelf)
  n_Shelf_page : NoAttr K A.Shelf "page"
  n_Shelf_size : NoAttr K A.Shelf "size"
  n_Shelf_taken : NoAttr K A.Shelf "taken"
  n_Shelf_many : NoAttr K A.Shelf "many"
  d_Shelf_init : Di K A.Shelf "Shelf.__init__" s_Shelf_init
  d_Shelf_out : Dm K A.Shelf "out" "Shelf.out" s_Shelf_out
  d_Shelf_free : Dm K A.Shelf "free" "Shelf.free" s_Shelf_free
  d_Shelf_is_out : Dm K A.Shelf "is_out" "Shelf.is_out" s_Shelf_is_out
  d_Shelf_take : Dm K A.Shelf "take" "Shelf.take" s_Shelf_take
  d_Shelf_give : Dm K A.Shelf "give" "Shelf.give" s_Shelf_give
  d_law_cell_at : Dd K mg "_law_cell_at" s_law_cell_at
  d_law_whole : Dd K mg "_law_whole" s_law_whole
  d_law_taken : Dd K mg "_law_taken" s_law_taken
  d_law_given : Dd K mg "_law_given" s_law_given
  d_law_deed : Dd K mg "_law_deed" s_law_deed
  d_law_stands : Dd K mg "_law_stands" s_law_stands
  d_law : Dd K mg "law" s_law
end Sb
namespace Sb
open PySem PySem.Spec PyProof.Rows L2

/-! ### a shelf's row of slots, in plain Lean -/
/-- the least free slot -/
def ff : List Bool → Option Nat
  | [] => none
  | false :: _ => some 0
  | true :: l => (ff l).map (· + 1)
/-- how many are out -/
abbrev cnt (l : List Bool) : Nat := l.count true
/-- the free ones, rising -/
def frs_ (l : List Bool) : List Nat := (List.range l.length).filter fun i => !(l.getD i true)
theorem ff_none {l : List Bool} (h : ∀ i, i < l.length → l[i]? = some true) : ff l = none := by
  induction l with
  | nil => rfl
  | cons b l ih =>
    have h0 := h 0 (by simp)
    simp at h0
    subst h0
    have := ih fun i hi => by have := h (i + 1) (by simpa using hi); simpa using this
    simp [ff, this]
theorem ff_some {l : List Bool} {j : Nat} (h : ∀ i, i < j → l[i]? = some true) (hj : l[j]? = some false) : ff l = some j := by
  induction l generalizing j with
  | nil => simp at hj
  | cons b l ih =>
    cases j with
    | zero => simp at hj; subst hj; rfl
    | succ j =>
      have h0 := h 0 (by omega)
      simp at h0
      subst h0
      have := ih (j := j) (fun i hi => by have := h (i + 1) (by omega); simpa using this) (by simpa using hj)
      simp [ff, this]
theorem ff_at {l : List Bool} {j : Nat} (h : ff l = some j) : l[j]? = some false := by
  induction l generalizing j with
  | nil => simp [ff] at h
  | cons b l ih =>
    cases b with
    | false => simp [ff] at h; subst h; rfl
    | true =>
      simp only [ff] at h
      cases e : ff l with
      | none => rw [e] at h; simp at h
      | some i => rw [e] at h; simp at h; subst h; simpa using ih e
theorem cnt_set_true {l : List Bool} {j : Nat} (h : l[j]? = some false) : cnt (l.set j true) = cnt l + 1 := by
  induction l generalizing j with
  | nil => simp at h
  | cons b l ih =>
    cases j with
    | zero => simp at h; subst h; simp [cnt]
    | succ j => have := ih (j := j) (by simpa using h); simp [cnt, List.count_cons] at this ⊢; omega
theorem cnt_set_false {l : List Bool} {j : Nat} (h : l[j]? = some true) : cnt (l.set j false) + 1 = cnt l := by
  induction l generalizing j with
  | nil => simp at h
  | cons b l ih =>
    cases j with
    | zero => simp at h; subst h; simp [cnt]
    | succ j => have := ih (j := j) (by simpa using h); simp [cnt, List.count_cons] at this ⊢; omega
theorem cnt_le (l : List Bool) : cnt l ≤ l.length := List.count_le_length

/-! ### a shelf in the heap -/
structure ShM where
  page : Int
  size : Int
  tk : List Bool
def shF (s : ShM) (t : Addr) (n : Int) : List (Str × V) := [("page", .int s.page), ("size", .int s.size), ("taken", .ref t), ("many", .int n)]
structure ShAt (A : Ad) (H : Hp) (p t : Addr) (s : ShM) : Prop where
  ob : ∃ dx, H p = some (.ins A.Shelf dx (shF s t (cnt s.tk)))
  tk : H t = some (.lst (s.tk.map V.bl))
theorem shF_page (s : ShM) (t : Addr) (n : Int) : (shF s t n).lookup ("page" : Str) = some (.int s.page) := by kernel_rfl
theorem shF_size (s : ShM) (t : Addr) (n : Int) : (shF s t n).lookup ("size" : Str) = some (.int s.size) := by kernel_rfl
theorem shF_taken (s : ShM) (t : Addr) (n : Int) : (shF s t n).lookup ("taken" : Str) = some (.ref t) := by kernel_rfl
theorem shF_many (s : ShM) (t : Addr) (n : Int) : (shF s t n).lookup ("many" : Str) = some (.int n) := by kernel_rfl
theorem shF_put (s : ShM) (t : Addr) (n m : Int) : putF ("many" : Str) (.int m) (shF s t n) = shF s t m := by kernel_rfl
theorem shF_new (p z n : Int) (t : Addr) (tk : List Bool) : putF ("many" : Str) (.int n) (putF ("taken" : Str) (.ref t) (putF ("size" : Str) (.int z) (putF ("page" : Str) (.int p) []))) = shF ⟨p, z, tk⟩ t n := by kernel_rfl
theorem shF_no_out (s : ShM) (t : Addr) (n : Int) : (shF s t n).lookup ("out" : Str) = none := by kernel_rfl
theorem shF_no_free (s : ShM) (t : Addr) (n : Int) : (shF s t n).lookup ("free" : Str) = none := by kernel_rfl
theorem shF_no_has_free (s : ShM) (t : Addr) (n : Int) : (shF s t n).lookup ("has_free" : Str) = none := by kernel_rfl
theorem shF_no_is_out (s : ShM) (t : Addr) (n : Int) : (shF s t n).lookup ("is_out" : Str) = none := by kernel_rfl
theorem shF_no_take (s : ShM) (t : Addr) (n : Int) : (shF s t n).lookup ("take" : Str) = none := by kernel_rfl
theorem shF_no_give (s : ShM) (t : Addr) (n : Int) : (shF s t n).lookup ("give" : Str) = none := by kernel_rfl

/-- a field's reading -/
abbrev RFld (K : PySem.W.Frag) (p : Addr) (f : Str) (H : Hp) (Q : V → Prop) : Prop :=
  ∃ a C dx fs v, V.ref p = .ref a ∧ H a = some (.ins C dx fs) ∧ Cls K C ∧ NoAttr K C f ∧ fs.lookup f = some v ∧ Q v
section
variable {K : PySem.W.Frag} {mg : Str → Option Value} {A : Ad} {H : Hp} {p t : Addr} {m : ShM} {Q : V → Prop}
theorem ShAt.fPage (S : ShAt A H p t m) (T : Tx K mg A) (q : Q (.int m.page)) : RFld K p "page" H Q := by
  obtain ⟨dx, h⟩ := S.ob
  exact ⟨p, _, dx, _, _, rfl, h, T.c_Shelf, T.n_Shelf_page, shF_page _ _ _, q⟩
theorem ShAt.fSize (S : ShAt A H p t m) (T : Tx K mg A) (q : Q (.int m.size)) : RFld K p "size" H Q := by
  obtain ⟨dx, h⟩ := S.ob
  exact ⟨p, _, dx, _, _, rfl, h, T.c_Shelf, T.n_Shelf_size, shF_size _ _ _, q⟩
theorem ShAt.fTaken (S : ShAt A H p t m) (T : Tx K mg A) (q : Q (.ref t)) : RFld K p "taken" H Q := by
  obtain ⟨dx, h⟩ := S.ob
  exact ⟨p, _, dx, _, _, rfl, h, T.c_Shelf, T.n_Shelf_taken, shF_taken _ _ _, q⟩
theorem ShAt.fMany (S : ShAt A H p t m) (T : Tx K mg A) (q : Q (.int (cnt m.tk))) : RFld K p "many" H Q := by
  obtain ⟨dx, h⟩ := S.ob
  exact ⟨p, _, dx, _, _, rfl, h, T.c_Shelf, T.n_Shelf_many, shF_many _ _ _, q⟩
theorem ShAt.ne (S : ShAt A H p t m) : p ≠ t := by
  obtain ⟨dx, h⟩ := S.ob
  exact ne_of h S.tk (by intro z; cases z)
theorem ShAt.keep {H' : Hp} (S : ShAt A H p t m) (k : ∀ b o, H b = some o → b = p ∨ b = t → H' b = some o) : ShAt A H' p t m := by
  obtain ⟨⟨dx, h⟩, h2⟩ := S
  exact ⟨⟨dx, k _ _ h (.inl rfl)⟩, k _ _ h2 (.inr rfl)⟩
end
/-- all that is tracked stays, but at p and t -/
def But2 (p t : Addr) (H H' : Hp) : Prop := ∀ b o, H b = some o → b ≠ p → b ≠ t → H' b = some o

/-! ### the promises -/
def sp_Shelf_init (K : PySem.W.Frag) (A : Ad) : Sp := fun vs H Q _ => ∃ (p dx : Addr) (g z : Int) (n : Nat), vs = [.ref p, .int g, .int z, .int n] ∧ n ≤ 1000 ∧ H p = some (.ins A.Shelf dx []) ∧
  ∀ (t : Addr) (H' : Hp), H t = none → ShAt A H' p t ⟨g, z, List.replicate n false⟩ → (∀ b o, H b = some o → b ≠ p → H' b = some o) → Q .non H'
def sp_Shelf_out (K : PySem.W.Frag) (A : Ad) : Sp := fun vs H Q _ => ∃ (p t : Addr) (m : ShM), vs = [.ref p] ∧ ShAt A H p t m ∧ Q (.int (cnt m.tk)) H
def sp_Shelf_free (K : PySem.W.Frag) (A : Ad) : Sp := fun vs H Q _ => ∃ (p t : Addr) (m : ShM), vs = [.ref p] ∧ ShAt A H p t m ∧ m.tk.length ≤ 1000 ∧
  ∀ q H', H q = none → H' q = some (.lst ((frs_ m.tk).map fun i => V.int (i : Nat))) → Same H H' → Q (.ref q) H'
def sp_Shelf_has_free (K : PySem.W.Frag) (A : Ad) : Sp := fun vs H Q _ => ∃ (p t : Addr) (m : ShM), vs = [.ref p] ∧ ShAt A H p t m ∧ Q (.bl (decide (cnt m.tk < m.tk.length))) H
/-- whether the slot z is out -/
def isOut (l : List Bool) (z : Int) : Bool := decide (0 ≤ z) && l.getD z.toNat false
def sp_Shelf_is_out (K : PySem.W.Frag) (A : Ad) : Sp := fun vs H Q _ => ∃ (p t : Addr) (m : ShM) (z : Int), vs = [.ref p, .int z] ∧ ShAt A H p t m ∧ Q (.bl (isOut m.tk z)) H
def sp_Shelf_take (K : PySem.W.Frag) (A : Ad) : Sp := fun vs H Q E => ∃ (p t : Addr) (m : ShM), vs = [.ref p] ∧ ShAt A H p t m ∧ m.tk.length ≤ 1000 ∧
  (ff m.tk = none → E (.ref A.NoRoom) none H) ∧ ∀ j H', ff m.tk = some j → ShAt A H' p t { m with tk := m.tk.set j true } → But2 p t H H' → Q (.int (j : Nat)) H'
def sp_Shelf_give (K : PySem.W.Frag) (A : Ad) : Sp := fun vs H Q E => ∃ (p t : Addr) (m : ShM) (z : Int), vs = [.ref p, .int z] ∧ ShAt A H p t m ∧ m.tk.length ≤ 1000 ∧
  (isOut m.tk z = false → E (.ref A.NotOut) none H) ∧ ∀ H', isOut m.tk z = true → ShAt A H' p t { m with tk := m.tk.set z.toNat false } → But2 p t H H' → Q .non H'

section
variable {P : Program} {w : World} {K : PySem.W.Frag} {mg : Str → Option Value} {base : Heap} {A : Ad}
theorem ok_Shelf_init (T : Tx K mg A) : If_ P w K mg base 1 A.Shelf ["self", "page", "size", "slots"] (sp_Shelf_init K A) := by
  refine Di.ok T.d_Shelf_init sc_Shelf_init bi_Shelf_init (fun vs H Q E h => ?_) (fun f cdv Ar outer s H vs Q E hr h => ?_)
  · obtain ⟨p, dx, g, z, n, rfl, _⟩ := h; rfl
  · obtain ⟨p, dx, g, z, n, rfl, hn, hp, k⟩ := h
    refine ⟨_, (pss_cons (ps_fld (pv 0) (pv 1) rfl)
    (pss_cons (ps_fld (pv 0) (pv 2) rfl)
    (pss_cons (ps_fld (pv 0) (pe_op op_rep (pe_lst (pa_cons pe_bl pa_nil)) (pv 3)) rfl)
    (pss_one (ps_fld (pv 0) pe_int rfl))))), ?_⟩
    -- self.page, self.size
    refine ⟨_, rfl, _, rfl, p, _, dx, _, rfl, hp, T.c_Shelf, T.n_Shelf_page, (by decide), ?_⟩
    refine ⟨_, rfl, _, rfl, p, _, dx, _, rfl, upd_same, T.c_Shelf, T.n_Shelf_size, (by show 1 < 1000; decide), ?_⟩
    -- [False] * slots
    refine ⟨(by decide), fun l hl => ⟨_, rfl, l, _, _, rfl, rfl, upd_same, (by omega), (by omega), ?_, fun t ht => ?_⟩⟩
    · show 1 * (n : Int).toNat ≤ sizeLine
      exact Nat.le_trans (by omega) (by decide : 1000 ≤ sizeLine)
    have npl : p ≠ l := fun e => by rw [e, upd_same] at hl; cases hl
    have nlt : l ≠ t := fun e => by rw [e, upd_same] at ht; cases ht
    have npt : p ≠ t := fun e => by rw [e, upd_ne (by rw [← e]; exact npl), upd_same] at ht; cases ht
    have ht0 : H t = none := by
      rw [upd_ne nlt.symm, upd_ne npt.symm, upd_ne npt.symm] at ht
      exact ht
    have hl0 : H l = none := by
      rw [upd_ne npl.symm, upd_ne npl.symm] at hl
      exact hl
    refine ⟨_, rfl, p, _, dx, _, rfl, (by rw [upd_ne npt, upd_ne npl]; exact upd_same), T.c_Shelf, T.n_Shelf_taken, (by show 2 < 1000; decide), ?_⟩
    refine ⟨_, rfl, p, _, dx, _, rfl, upd_same, T.c_Shelf, T.n_Shelf_many, (by show 3 < 1000; decide), ?_⟩
    refine k t _ ht0 ⟨⟨dx, ?_⟩, ?_⟩ fun b o e nb => ?_
    · rw [upd_same, shF_new _ _ _ _ (List.replicate n false)]
      have : cnt (List.replicate n false) = 0 := by simp [cnt, List.count_replicate]
      rw [this]; rfl
    · rw [upd_ne npt.symm, upd_ne npt.symm, upd_same]
      congr 2
      show (List.replicate (n : Int).toNat [V.bl false]).flatten = _
      rw [Int.toNat_natCast, List.flatten_replicate_singleton, List.map_replicate]
    · rw [upd_ne nb, upd_ne nb, upd_ne (ne_of_none e ht0), upd_ne (ne_of_none e hl0), upd_ne nb, upd_ne nb]
      exact e
theorem ok_Shelf_out (T : Tx K mg A) : Mf P w K mg base 1 A.Shelf "out" ["self"] (sp_Shelf_out K A) := by
  refine Dm.ok T.d_Shelf_out sc_Shelf_out bi_Shelf_out (fun vs H Q E h => ?_) (fun f cdv Ar outer s H vs Q E hr h => ?_)
  · obtain ⟨p, t, m, rfl, _⟩ := h; rfl
  · obtain ⟨p, t, m, rfl, S, k⟩ := h
    refine ⟨_, (pss_one (ps_ret (pe_fld (pv 0) rfl))), ?_⟩
    exact ⟨_, rfl, S.fMany T k⟩
theorem bl_at {l : List Bool} {i : Nat} {b : Bool} (h : l[i]? = some b) : (l.map V.bl)[i]? = some (.bl b) := by rw [List.getElem?_map, h]; rfl
theorem ok_Shelf_is_out (T : Tx K mg A) : Mf P w K mg base 1 A.Shelf "is_out" ["self", "slot"] (sp_Shelf_is_out K A) := by
  refine Dm.ok T.d_Shelf_is_out sc_Shelf_is_out bi_Shelf_is_out (fun vs H Q E h => ?_) (fun f cdv Ar outer s H vs Q E hr h => ?_)
  · obtain ⟨p, t, m, z, rfl, _⟩ := h; rfl
  · obtain ⟨p, t, m, z, rfl, S, k⟩ := h
    refine ⟨_, (pss_one (ps_ret (pe_and (pe_chain op_le op_lt pe_int (pv 1) (pe_callB call_len_seq (by rfl) T.z_len (by decide +kernel) (pa_cons (pe_fld (pv 0) rfl) pa_nil))) (pe_one (pe_ix ix_list (pe_fld (pv 0) rfl) (pv 1) (fun _ _ => rfl)))))), ?_⟩
    -- 0 <= slot < len(self.taken)
    refine ⟨_, rfl, _, _, rfl, rfl, _, rfl, ?_⟩
    refine iteD (fun h0 => ?_) (fun h0 => ?_)
    · refine ⟨_, rfl, S.fTaken T ⟨t, _, rfl, .inl (SqL.of S.tk), _, _, rfl, rfl, _, rfl, ?_⟩⟩
      refine iteD (fun h1 => ?_) (fun h1 => ?_)
      · have h2 : z.toNat < m.tk.length := by rw [List.length_map] at h1; omega
        obtain ⟨b, hb⟩ : ∃ b, m.tk[z.toNat]? = some b := ⟨_, List.getElem?_eq_getElem h2⟩
        refine ⟨_, rfl, ?_⟩
        refine S.fTaken T ?_
        refine ⟨_, rfl, ?_⟩
        refine ⟨t, _, _, .bl b, rfl, rfl, SqL.of S.tk, at_of (j := z.toNat) (by omega) (bl_at hb), ?_⟩
        have e : isOut m.tk z = b := by
          unfold isOut
          rw [decide_eq_true h0, List.getD_eq_getElem?_getD, hb]; rfl
        rw [e] at k
        exact k
      · have e : isOut m.tk z = false := by
          unfold isOut
          rw [List.length_map] at h1
          rw [List.getD_eq_getElem?_getD, List.getElem?_eq_none (by omega)]
          simp
        rw [e] at k
        exact k
    · refine ⟨_, rfl, iteF ?_⟩
      have e : isOut m.tk z = false := by unfold isOut; rw [decide_eq_false h0]; rfl
      rw [e] at k
      exact k
theorem frs_succ (l : List Bool) (i : Nat) : ((List.range (i + 1)).filter fun k => !(l.getD k true)) = ((List.range i).filter fun k => !(l.getD k true)) ++ (if l.getD i true then [] else [i]) := by
  rw [List.range_succ, List.filter_append]
  congr 1
  cases h : l.getD i true <;> (simp only [List.filter, h]; rfl)
theorem ok_Shelf_free (T : Tx K mg A) : Mf P w K mg base 1 A.Shelf "free" ["self"] (sp_Shelf_free K A) := by
  refine Dm.ok T.d_Shelf_free sc_Shelf_free bi_Shelf_free (fun vs H Q E h => ?_) (fun f cdv Ar outer s H vs Q E hr h => ?_)
  · obtain ⟨p, t, m, rfl, _⟩ := h; rfl
  · obtain ⟨p, t, m, rfl, S, hl, k⟩ := h
    refine ⟨_, (pss_one (ps_ret (pe_lc (own := [("slot", 1)]) (g := gName 1) (tt := (tNot (tB (tOp (rIxL K) (tFld K (tVar 0) "taken") (tVar 1))))) (te := (tVar 1)) rfl sc_Shelf_free.nd (pi_range1 (by rfl) T.z_range (pa_cons (pe_callB call_len_seq (by rfl) T.z_len (by decide +kernel) (pa_cons (pe_fld (pv 0) rfl) pa_nil)) pa_nil)) (blkOk_by (own := [("slot", 1)]) (N := ["self", "slot"]) (sc := defScope s_Shelf_free) (by decide +kernel)) (fun _ _ _ _ _ => pg_name (i := 1) sc_Shelf_free.nd rfl (Or.inl rfl)) (fun _ _ _ _ _ => pts_one (pt_not (pt_val (pe_ix ix_list (pe_fld (pv 0) rfl) (pv 1) (fun _ _ => rfl))))) (fun _ _ _ _ _ => (pv 1))))), ?_⟩
    refine ⟨_, rfl, S.fTaken T ⟨t, _, rfl, .inl (SqL.of S.tk), _, rfl, (by omega), (by rw [List.length_map]; omega), ?_⟩⟩
    intro D hD
    refine lc_range (lo := 0) (n := _) (fun i H' => Same H H' ∧ H' D = some (.lst ((((List.range i).filter fun k => !(m.tk.getD k true))).map fun i => V.int (i : Nat)))) ⟨fun b o e => by rw [upd_ne (ne_of_none e hD)]; exact e, upd_same⟩ ?_ ?_
    · rintro i H' hi ⟨sm, hH⟩
      have hi2 : i < m.tk.length := by simpa using hi
      have S' : ShAt A H' p t m := S.keep fun b o e _ => sm b o e
      obtain ⟨b, hb⟩ : ∃ b, m.tk[i]? = some b := ⟨_, List.getElem?_eq_getElem hi2⟩
      refine ⟨rfl, ?_⟩
      refine ⟨_, rfl, S'.fTaken T ⟨_, rfl, t, _, _, .bl b, rfl, rfl, SqL.of S'.tk, at_of (j := i) (by omega) (bl_at hb), _, rfl, ?_⟩⟩
      have eg : m.tk.getD i true = b := by rw [List.getD_eq_getElem?_getD, hb]; rfl
      refine iteNB (fun h => ?_) (fun h => ?_)
      · subst h
        refine ⟨_, rfl, _, hH, ?_, ?_, ?_⟩
        · rw [List.length_map]
          refine Nat.lt_of_le_of_lt (List.length_filter_le _ _) ?_
          rw [List.length_range]
          exact Nat.lt_of_lt_of_le (Nat.lt_of_lt_of_le hi2 hl) (by decide)
        · intro b o e
          rw [upd_ne (ne_of_none e hD)]
          exact sm b o e
        · rw [upd_same, frs_succ, eg]
          simp
      · subst h
        refine ⟨sm, ?_⟩
        rw [hH, frs_succ, eg]
        simp
    · rintro H' ⟨sm, hH⟩
      refine k D H' hD ?_ sm
      rw [hH]
      simp [frs_]
theorem ok_Shelf_take (T : Tx K mg A) : Mf P w K mg base 1 A.Shelf "take" ["self"] (sp_Shelf_take K A) := by
  refine Dm.ok T.d_Shelf_take sc_Shelf_take bi_Shelf_take (fun vs H Q E h => ?_) (fun f cdv Ar outer s H vs Q E hr h => ?_)
  · obtain ⟨p, t, m, rfl, _⟩ := h; rfl
  · obtain ⟨p, t, m, rfl, S, hl, kN, k⟩ := h
    refine ⟨_, (pss_cons (ps_for (passes_of rfl) rfl (pi_range1 (by rfl) T.z_range (pa_cons (pe_callB call_len_seq (by rfl) T.z_len (by decide +kernel) (pa_cons (pe_fld (pv 0) rfl) pa_nil)) pa_nil)) (pg_name (i := 1) sc_Shelf_take.nd rfl (Or.inl rfl))
    (pss_one (ps_if (pt_not (pt_val (pe_ix ix_list (pe_fld (pv 0) rfl) (pv 1) (fun _ _ => rfl)))) (pss_cons (ps_asg pe_bl (pg_sub (pe_fld (pv 0) rfl) (pv 1) set_list))
    (pss_cons (ps_fld (pv 0) (pe_op op_add (pe_fld (pv 0) rfl) pe_int) rfl)
    (pss_one (ps_ret (pv 1)))))
    pss_nil)))
    (pss_one (ps_err rfl T.e_NoRoom (by rfl) (takes_of rfl rfl rfl rfl)))), ?_⟩
    refine ⟨_, rfl, S.fTaken T ⟨t, _, rfl, .inl (SqL.of S.tk), _, rfl, (by omega), (by rw [List.length_map]; omega), ?_⟩⟩
    refine for_range (lo := 0) (n := _) (fun i σ H' => H' = H ∧ (∀ j, j < i → m.tk[j]? = some true) ∧ ∃ v, σ = [some (.ref p), v]) ⟨rfl, (fun j hj => absurd hj (Nat.not_lt_zero j)), _, rfl⟩ ?_ ?_
    · rintro i σ H' hi ⟨rfl, ht, v, rfl⟩
      have hi2 : i < m.tk.length := by simpa using hi
      obtain ⟨b, hb⟩ : ∃ b, m.tk[i]? = some b := ⟨_, List.getElem?_eq_getElem hi2⟩
      refine ⟨_, rfl, S.fTaken T ⟨_, rfl, t, _, _, .bl b, rfl, rfl, SqL.of S.tk, at_of (j := i) (by omega) (bl_at hb), _, rfl, ?_⟩⟩
      refine iteNB (fun h => ?_) (fun h => ?_)
      · subst h
        have ej : ff m.tk = some i := ff_some ht hb
        obtain ⟨dx, h1⟩ := S.ob
        have npt := S.ne
        -- self.taken[slot] = True
        refine ⟨_, rfl, S.fTaken T ⟨_, rfl, t, _, _, i, rfl, rfl, S.tk, ?_, ?_⟩⟩
        · show ixN (m.tk.map V.bl).length (0 + (i : Int)) = some i
          rw [List.length_map, Int.zero_add]
          exact ixN_at hi2
        -- self.many = self.many + 1
        refine ⟨_, rfl, p, _, dx, _, _, rfl, (by rw [upd_ne npt]; exact h1), T.c_Shelf, T.n_Shelf_many, shF_many _ _ _, _, _, rfl, rfl, ?_⟩
        refine ⟨_, rfl, p, _, dx, _, rfl, (by rw [upd_ne npt]; exact h1), T.c_Shelf, T.n_Shelf_many, (by show 4 < 1000; decide), ?_⟩
        refine ⟨_, rfl, ?_⟩
        have e0 : V.int (0 + (i : Int)) = V.int (i : Nat) := by rw [Int.zero_add]
        show Q (V.int (0 + (i : Int))) _
        rw [e0]
        refine k i _ ej ⟨⟨dx, ?_⟩, ?_⟩ fun b o e n1 n2 => ?_
        · rw [upd_same, shF_put]
          show some (HO.ins A.Shelf dx (shF m t ((cnt m.tk : Int) + 1))) = some (HO.ins A.Shelf dx (shF { m with tk := m.tk.set i true } t (cnt (m.tk.set i true))))
          rw [cnt_set_true hb]
          rfl
        · rw [upd_ne npt.symm, upd_same, List.map_set]
        · rw [upd_ne n1, upd_ne n2]
          exact e
      · subst h
        refine ⟨rfl, fun j hj => ?_, _, rfl⟩
        rcases Nat.lt_succ_iff_lt_or_eq.mp hj with h | h
        · exact ht j h
        · rw [h]; exact hb
    · rintro σ H' ⟨rfl, ht, v, rfl⟩
      refine kN (ff_none fun i hi => ht i ?_)
      simpa using hi
theorem ok_Shelf_give (T : Tx K mg A) : Mf P w K mg base 2 A.Shelf "give" ["self", "slot"] (sp_Shelf_give K A) := by
  refine Dm.ok T.d_Shelf_give sc_Shelf_give bi_Shelf_give (fun vs H Q E h => ?_) (fun f cdv Ar outer s H vs Q E hr h => ?_)
  · obtain ⟨p, t, m, z, rfl, _⟩ := h; rfl
  · obtain ⟨p, t, m, z, rfl, S, hl, kN, k⟩ := h
    refine ⟨_, (pss_cons (ps_if (pt_not (pt_val (pe_mf (ok_Shelf_is_out T) T.c_Shelf hr (by decide) (pv 0) (pa_cons (pv 1) pa_nil)))) (pss_one (ps_err rfl T.e_NotOut (by rfl) (takes_of rfl rfl rfl rfl)))
    pss_nil)
    (pss_cons (ps_asg pe_bl (pg_sub (pe_fld (pv 0) rfl) (pv 1) set_list))
    (pss_one (ps_fld (pv 0) (pe_op op_sub (pe_fld (pv 0) rfl) pe_int) rfl)))), ?_⟩
    obtain ⟨dx, h1⟩ := S.ob
    have npt := S.ne
    refine ⟨_, rfl, p, dx, _, rfl, h1, shF_no_is_out _ _ _, _, rfl, p, t, m, z, rfl, S, _, rfl, ?_⟩
    refine iteNB (fun h => kN h) (fun h => ?_)
    have hz : 0 ≤ z ∧ m.tk[z.toNat]? = some true := by
      unfold isOut at h
      rw [Bool.and_eq_true, decide_eq_true_eq, List.getD_eq_getElem?_getD] at h
      refine ⟨h.1, ?_⟩
      cases e : m.tk[z.toNat]? with
      | none => rw [e] at h; exact absurd h.2 (by decide)
      | some b => rw [e] at h; have h2 := h.2; simp at h2; rw [h2]
    have hz2 : z.toNat < m.tk.length := (List.getElem?_eq_some_iff.mp hz.2).1
    refine ⟨_, rfl, S.fTaken T ⟨_, rfl, t, _, _, z.toNat, rfl, rfl, S.tk, ?_, ?_⟩⟩
    · rw [List.length_map, show z = ((z.toNat : Nat) : Int) by omega]
      exact ixN_at hz2
    refine ⟨_, rfl, p, _, dx, _, _, rfl, (by rw [upd_ne npt]; exact h1), T.c_Shelf, T.n_Shelf_many, shF_many _ _ _, _, _, rfl, rfl, ?_⟩
    refine ⟨_, rfl, p, _, dx, _, rfl, (by rw [upd_ne npt]; exact h1), T.c_Shelf, T.n_Shelf_many, (by show 4 < 1000; decide), ?_⟩
    refine k _ h ⟨⟨dx, ?_⟩, ?_⟩ fun b o e n1 n2 => ?_
    · rw [upd_same, shF_put]
      have q := cnt_set_false hz.2
      show some (HO.ins A.Shelf dx (shF m t ((cnt m.tk : Int) - 1))) = some (HO.ins A.Shelf dx (shF { m with tk := m.tk.set z.toNat false } t (cnt (m.tk.set z.toNat false))))
      rw [show ((cnt m.tk : Int) - 1) = ((cnt (m.tk.set z.toNat false) : Nat) : Int) by omega]
      rfl
    · rw [upd_ne npt.symm, upd_same, List.map_set]
    · rw [upd_ne n1, upd_ne n2]
      exact e
end
end Sb
namespace Sb
open PySem PySem.Spec PyProof.Rows L2
/-! ### what the laws share: a cell of the script, whole numbers -/
def cellAt (ns : List Int) (k : Nat) : Int := ns.getD k 0
def sp_law_cell_at (K : PySem.W.Frag) (A : Ad) : Sp := fun vs H Q _ => ∃ (a : Addr) (ns : List Int) (k : Nat), vs = [.ref a, .int k] ∧ SqL K H a (ns.map V.int) ∧ Q (.int (cellAt ns k)) H
/-- the kinds that are asked -/
def kinds : List String := ["int", "bool", "NoneType", "str", "list", "tuple"]
def sp_law_whole (K : PySem.W.Frag) (A : Ad) : Sp := fun vs H Q _ => ∃ (v : V) (T : String), vs = [v] ∧ TyX K H v (.type T) ∧ T ∈ kinds ∧ Q (.bl (decide (T = "int"))) H
theorem tInt {K : PySem.W.Frag} {H : Hp} {i : Int} : TyX K H (.int i) (.type "int") := .base (.int i)
theorem tBl {K : PySem.W.Frag} {H : Hp} {b : Bool} : TyX K H (.bl b) (.type "bool") := .base (.bl b)
theorem tStr {K : PySem.W.Frag} {H : Hp} {x : Str} : TyX K H (.str x) (.type "str") := .base (.str x)
theorem tNon {K : PySem.W.Frag} {H : Hp} : TyX K H .non (.type "NoneType") := .base .non
theorem tLst {K : PySem.W.Frag} {H : Hp} {a : Addr} {xs : List V} (e : H a = some (.lst xs)) : TyX K H (.ref a) (.type "list") := .base (.lst e)
theorem tTup {K : PySem.W.Frag} {H : Hp} {a : Addr} {xs : List V} (e : H a = some (.tup xs)) : TyX K H (.ref a) (.type "tuple") := .base (.tup e)
section
variable {P : Program} {w : World} {K : PySem.W.Frag} {mg : Str → Option Value} {base : Heap} {A : Ad}
theorem ok_law_cell_at (T : Tx K mg A) : Df P w K mg base 1 "_law_cell_at" ["_law_script", "_law_k"] (sp_law_cell_at K A) := by
  refine Dd.ok T.d_law_cell_at sc_law_cell_at bi_law_cell_at (fun vs H Q E h => ?_) (fun f cdv Ar outer s H vs Q E hr h => ?_)
  · obtain ⟨a, ns, k, rfl, _⟩ := h; rfl
  · obtain ⟨a, ns, n, rfl, S, k⟩ := h
    refine ⟨_, (pss_cons (ps_if (pt_cmpR op_lt (pv 1) (pe_callB call_len_seq (by rfl) T.z_len (by decide +kernel) (pa_cons (pv 0) pa_nil)) (nomark _)) (pss_one (ps_ret (pe_ix ix_list (pv 0) (pv 1) (fun _ _ => rfl))))
    pss_nil)
    (pss_one (ps_ret pe_int))), ?_⟩
    refine ⟨_, rfl, _, rfl, a, _, rfl, .inl S, _, _, rfl, rfl, _, rfl, ?_⟩
    refine iteD (fun h => ?_) (fun h => ?_)
    · rw [List.length_map] at h
      have hn : n < ns.length := by omega
      refine ⟨_, rfl, _, rfl, a, _, _, .int (cellAt ns n), rfl, rfl, S, at_of rfl ?_, k⟩
      rw [List.getElem?_map, List.getElem?_eq_getElem hn]
      simp [cellAt, List.getD_eq_getElem?_getD, hn]
    · rw [List.length_map] at h
      have e : cellAt ns n = 0 := by
        unfold cellAt
        rw [List.getD_eq_getElem?_getD, List.getElem?_eq_none (by omega)]; rfl
      rw [e] at k
      exact k
theorem ok_law_whole (T : Tx K mg A) : Df P w K mg base 1 "_law_whole" ["_law_found"] (sp_law_whole K A) := by
  refine Dd.ok T.d_law_whole sc_law_whole bi_law_whole (fun vs H Q E h => ?_) (fun f cdv Ar outer s H vs Q E hr h => ?_)
  · obtain ⟨v, Ty, rfl, _⟩ := h; rfl
  · obtain ⟨v, Ty, rfl, ty, hm, k⟩ := h
    refine ⟨_, (pss_one (ps_ret (pe_and (pe_callB call_isi (by rfl) T.z_isinstance (by decide +kernel) (pa_cons (pv 0) (pa_cons (pe_bltn (v := .ty "int") (by rfl) T.z_int (by decide +kernel) rfl) pa_nil))) (pe_one (pe_not (pe_callB call_isi (by rfl) T.z_isinstance (by decide +kernel) (pa_cons (pv 0) (pa_cons (pe_bltn (v := .ty "bool") (by rfl) T.z_bool (by decide +kernel) rfl) pa_nil)))))))), ?_⟩
    refine ⟨_, rfl, ?_⟩
    simp only [kinds, List.mem_cons, List.mem_nil_iff, or_false] at hm
    rcases hm with rfl | rfl | rfl | rfl | rfl | rfl
    · refine ⟨_, _, _, _, true, rfl, .ty _, ty, kit_ty (by decide +kernel), ?_⟩
      refine ⟨_, rfl, iteT ⟨_, rfl, ?_⟩⟩
      refine ⟨_, _, _, _, false, rfl, .ty _, ty, kit_ty (by decide +kernel), ?_⟩
      exact ⟨_, rfl, k⟩
    · refine ⟨_, _, _, _, true, rfl, .ty _, ty, kit_ty (by decide +kernel), ?_⟩
      refine ⟨_, rfl, iteT ⟨_, rfl, ?_⟩⟩
      refine ⟨_, _, _, _, true, rfl, .ty _, ty, kit_ty (by decide +kernel), ?_⟩
      exact ⟨_, rfl, k⟩
    all_goals
      refine ⟨_, _, _, _, false, rfl, .ty _, ty, kit_ty (by decide +kernel), ?_⟩
      exact ⟨_, rfl, iteF k⟩
end
end Sb
namespace Sb
open PySem PySem.Spec PyProof.Rows L2
/-! ### the law's defs -/
def ffI (l : List Bool) : Int := match ff l with
  | some j => (j : Nat)
  | none => -1
def tkBy (l : List Bool) : List Bool := match ff l with
  | some j => l.set j true
  | none => l
theorem tkBy_length (l : List Bool) : (tkBy l).length = l.length := by
  unfold tkBy
  cases ff l <;> simp
def sp_law_taken (K : PySem.W.Frag) (A : Ad) : Sp := fun vs H Q _ => ∃ (p t : Addr) (m : ShM), vs = [.ref p] ∧ ShAt A H p t m ∧ m.tk.length ≤ 1000 ∧
  ∀ H', ShAt A H' p t { m with tk := tkBy m.tk } → But2 p t H H' → Q (.int (ffI m.tk)) H'
def gvBy (l : List Bool) (z : Int) : List Bool := if isOut l z = true then l.set z.toNat false else l
theorem gvBy_length (l : List Bool) (z : Int) : (gvBy l z).length = l.length := by
  unfold gvBy
  split <;> simp
def sp_law_given (K : PySem.W.Frag) (A : Ad) : Sp := fun vs H Q _ => ∃ (p t : Addr) (m : ShM) (z : Int), vs = [.ref p, .int z] ∧ ShAt A H p t m ∧ m.tk.length ≤ 1000 ∧
  ∀ H', ShAt A H' p t { m with tk := gvBy m.tk z } → But2 p t H H' → Q (.bl (isOut m.tk z)) H'
/-- a deed: the shelf and the row change alike -/
def sp_law_deed (K : PySem.W.Frag) (A : Ad) : Sp := fun vs H Q _ => ∃ (p t rw : Addr) (m : ShM) (c : Int), vs = [.ref p, .ref rw, .int c] ∧ ShAt A H p t m ∧ H rw = some (.lst (m.tk.map V.bl)) ∧ rw ≠ t ∧ m.tk.length ≤ 1000 ∧
  ∀ tk' H', tk'.length = m.tk.length → ShAt A H' p t { m with tk := tk' } → H' rw = some (.lst (tk'.map V.bl)) → (∀ b o, H b = some o → b ≠ p → b ≠ t → b ≠ rw → H' b = some o) → Q (.bl true) H'
theorem inV_bl (l : List Bool) : inV (.bl false) (l.map V.bl) = (ff l).isSome := by
  induction l with
  | nil => rfl
  | cons b l ih =>
    have e : inV (.bl false) ((b :: l).map V.bl) = (eqV (.bl b) (.bl false) || inV (.bl false) (l.map V.bl)) := rfl
    rw [e, ih]
    cases b
    · rfl
    · show (false || (ff l).isSome) = ((ff l).map (· + 1)).isSome
      cases ff l <;> rfl
theorem all_flat_bl (l : List Bool) : (l.map V.bl).all flatV = true := by
  rw [List.all_eq_true]
  intro x hx
  obtain ⟨b, _, rfl⟩ := List.mem_map.mp hx
  rfl
theorem all_flat_int (l : List Int) : (l.map V.int).all flatV = true := by
  rw [List.all_eq_true]
  intro x hx
  obtain ⟨b, _, rfl⟩ := List.mem_map.mp hx
  rfl
theorem ff_ahead {l : List Bool} {j : Nat} (h : ff l = some j) : ∀ i, i < j → l[i]? = some true := by
  induction l generalizing j with
  | nil => simp [ff] at h
  | cons b l ih =>
    cases b with
    | false => simp [ff] at h; subst h; intro i hi; omega
    | true =>
      simp only [ff] at h
      cases e : ff l with
      | none => rw [e] at h; simp at h
      | some k =>
        rw [e] at h; simp at h; subst h
        intro i hi
        cases i with
        | zero => rfl
        | succ i => simpa using ih e i (by omega)
section
variable {P : Program} {w : World} {K : PySem.W.Frag} {mg : Str → Option Value} {base : Heap} {A : Ad}
theorem ok_law_taken (T : Tx K mg A) : Df P w K mg base 2 "_law_taken" ["_law_shelf"] (sp_law_taken K A) := by
  refine Dd.ok T.d_law_taken sc_law_taken bi_law_taken (fun vs H Q E h => ?_) (fun f cdv Ar outer s H vs Q E hr h => ?_)
  · obtain ⟨p, t, m, rfl, _⟩ := h; rfl
  · obtain ⟨p, t, m, rfl, S, hl, k⟩ := h
    refine ⟨_, (pss_one (ps_try_only rfl rfl ⟨rfl, by decide, .inl T.e_NoRoom.g⟩ takes0 (fun W pn xe tk po => (pss_one (ps_ret (pe_mfS0 (ok_Shelf_take T) T.c_Shelf hr (by decide) tk (pv 0)))))
    (fun a oe cls d pn hz hf => (pss_one (ps_ret (pe_un un_neg pe_int)))))), ?_⟩
    obtain ⟨dx, h1⟩ := S.ob
    refine ⟨_, rfl, p, dx, _, rfl, h1, shF_no_take _ _ _, p, t, m, rfl, S, hl, fun hn => ?_, fun j H' ej S' b => ?_⟩
    · refine ⟨true, T.x_NoRoom_NoRoom, fun _ a ha => ?_, fun q => nomatch q⟩
      refine ⟨_, rfl, ?_⟩
      have := k H (by unfold tkBy; rw [hn]; exact S) (fun b o e _ _ => e)
      unfold ffI at this
      rw [hn] at this
      exact this
    · have := k H' (by unfold tkBy; rw [ej]; exact S') b
      unfold ffI at this
      rw [ej] at this
      exact this
theorem ok_law_given (T : Tx K mg A) : Df P w K mg base 3 "_law_given" ["_law_shelf", "_law_slot"] (sp_law_given K A) := by
  refine Dd.ok T.d_law_given sc_law_given bi_law_given (fun vs H Q E h => ?_) (fun f cdv Ar outer s H vs Q E hr h => ?_)
  · obtain ⟨p, t, m, z, rfl, _⟩ := h; rfl
  · obtain ⟨p, t, m, z, rfl, S, hl, k⟩ := h
    refine ⟨_, (pss_one (ps_try_only rfl rfl ⟨rfl, by decide, .inl T.e_NotOut.g⟩ takes0 (fun W pn xe tk po => (pss_one (ps_ret (pe_cmpR op_isN (pe_mfS (ok_Shelf_give T) T.c_Shelf hr (by decide) tk (pv 0) (pa_cons (pv 1) pa_nil)) pe_non (nomark _)))))
    (fun a oe cls d pn hz hf => (pss_one (ps_ret pe_bl))))), ?_⟩
    obtain ⟨dx, h1⟩ := S.ob
    refine ⟨_, rfl, p, dx, _, rfl, h1, shF_no_give _ _ _, _, rfl, p, t, m, z, rfl, S, hl, fun hn => ?_, fun H' ej S' b => ?_⟩
    · refine ⟨true, T.x_NotOut_NotOut, fun _ a ha => ?_, fun q => nomatch q⟩
      have := k H (by unfold gvBy; rw [hn]; exact S) (fun b o e _ _ => e)
      rw [hn] at this
      exact this
    · have := k H' (by unfold gvBy; rw [ej]; exact S') b
      rw [ej] at this
      exact ⟨rfl, this⟩
theorem ok_law_deed (T : Tx K mg A) : Df P w K mg base 4 "_law_deed" ["_law_shelf", "_law_row", "_law_cell"] (sp_law_deed K A) := by
  refine Dd.ok T.d_law_deed sc_law_deed bi_law_deed (fun vs H Q E h => ?_) (fun f cdv Ar outer s H vs Q E hr h => ?_)
  · obtain ⟨p, t, rw, m, c, rfl, _⟩ := h; rfl
  · obtain ⟨p, t, rw', m, c, rfl, S, hR, nrt, hl, k⟩ := h
    refine ⟨_, (pss_cons (ps_if (pt_cmpR op_eq (pe_op op_mod (pv 2) pe_int) pe_int (nomark _)) (pss_cons (ps_set (i := 3) sc_law_deed.nd rfl (Or.inl rfl) (pe_df (ok_law_taken T) hr (by decide) (by rfl) (pa_cons (pv 0) pa_nil)))
    (pss_cons (ps_set (i := 4) sc_law_deed.nd rfl (Or.inl rfl) (pe_un un_neg pe_int))
    (pss_cons (ps_if (pt_cmpR op_in_seq pe_bl (pv 1) rfl) (pss_cons (ps_set (i := 4) sc_law_deed.nd rfl (Or.inl rfl) (pe_bm PySem.F.plainAttrs_list PySem.F.slot_list_index PySem.F.type_list_index mt_index (pv 1) (pa_cons pe_bl pa_nil)))
    (pss_one (ps_asg pe_bl (pg_sub (pv 1) (pv 4) set_list))))
    pss_nil)
    (pss_one (ps_ret (pe_and (pe_df (ok_law_whole T) hr (by decide) (by rfl) (pa_cons (pv 3) pa_nil)) (pe_one (pe_cmpR op_eq (pv 3) (pv 4) (nomark _)))))))))
    pss_nil)
    (pss_cons (ps_set (i := 3) sc_law_deed.nd rfl (Or.inl rfl) (pe_op op_sub (pe_op op_mod (pe_op op_fdiv (pv 2) pe_int) (pe_op op_add (pe_callB call_len_seq (by rfl) T.z_len (by decide +kernel) (pa_cons (pv 1) pa_nil)) pe_int)) pe_int))
    (pss_cons (ps_set (i := 5) sc_law_deed.nd rfl (Or.inl rfl) (pe_and (pe_chain op_le op_lt pe_int (pv 3) (pe_callB call_len_seq (by rfl) T.z_len (by decide +kernel) (pa_cons (pv 1) pa_nil))) (pe_one (pe_ix ix_list (pv 1) (pv 3) (fun _ _ => rfl)))))
    (pss_cons (ps_if (pt_val (pv 5)) (pss_one (ps_asg pe_bl (pg_sub (pv 1) (pv 3) set_list)))
    pss_nil)
    (pss_one (ps_ret (pe_cmpR op_eq (pe_df (ok_law_given T) hr (by decide) (by rfl) (pa_cons (pv 0) (pa_cons (pv 3) pa_nil))) (pv 5) (nomark _)))))))), ?_⟩
    obtain ⟨dx, h1⟩ := S.ob
    have nrp : rw' ≠ p := ne_of hR h1 (by intro z; cases z)
    refine ⟨_, rfl, _, _, rfl, rfl, (by show (0 : Int) < 2; decide), rfl, _, rfl, ?_⟩
    refine iteD (fun h => ?_) (fun h => ?_)
    · -- a slot is taken
      refine ⟨_, rfl, p, t, m, rfl, S, hl, fun H1 S1 b1 => ?_⟩
      have hR1 : H1 rw' = some (.lst (m.tk.map V.bl)) := b1 _ _ hR nrp nrt
      refine ⟨_, rfl, ?_⟩
      refine ⟨_, rfl, rw', _, rfl, .inl (SqL.of hR1), rfl, all_flat_bl _, _, rfl, ?_⟩
      show if inV (.bl false) (m.tk.map V.bl) = true then _ else _
      rw [inV_bl]
      cases e : ff m.tk with
      | some j =>
        refine iteT ?_
        have hz : (m.tk.map V.bl)[j]? = some (.bl false) := bl_at (ff_at e)
        have hjl : j < m.tk.length := (List.getElem?_eq_some_iff.mp (ff_at e)).1
        refine ⟨_, rfl, .inl ⟨rfl, _, SqL.of hR1⟩, ?_⟩
        refine ⟨rw', _, .bl false, j, .bl false, rfl, rfl, SqL.of hR1, rfl, all_flat_bl _, hz, rfl, fun i y hi hy => ?_, ?_⟩
        · rw [List.getElem?_map, ff_ahead e i hi] at hy
          cases hy
          rfl
        refine ⟨_, rfl, _, rfl, rw', _, _, j, rfl, rfl, hR1, ?_, ?_⟩
        · rw [List.length_map]; exact ixN_at hjl
        refine ⟨_, rfl, .int (ffI m.tk), "int", rfl, tInt, (by decide), ?_⟩
        refine ⟨_, rfl, iteT ?_⟩
        refine ⟨_, rfl, _, rfl, rfl, ?_⟩
        have ee : decide (V.int (ffI m.tk) = V.int (j : Nat)) = true := by
          unfold ffI
          rw [e]
          exact decide_eq_true rfl
        show Q (.bl (decide (V.int (ffI m.tk) = V.int (j : Nat)))) _
        rw [ee]
        have ek : tkBy m.tk = m.tk.set j true := by unfold tkBy; rw [e]
        refine k (tkBy m.tk) _ (tkBy_length _) (S1.keep fun b o eb hb => ?_) ?_ fun b o eb n1 n2 n3 => ?_
        · rw [upd_ne (by rcases hb with h | h <;> rw [h] <;> first | exact nrp.symm | exact nrt.symm)]; exact eb
        · rw [upd_same, ek, List.map_set]
        · rw [upd_ne n3]; exact b1 _ _ eb n1 n2
      | none =>
        refine iteF ?_
        refine ⟨_, rfl, .int (ffI m.tk), "int", rfl, tInt, (by decide), ?_⟩
        refine ⟨_, rfl, iteT ?_⟩
        refine ⟨_, rfl, _, rfl, rfl, ?_⟩
        have ee : decide (V.int (ffI m.tk) = V.int (-1)) = true := by
          unfold ffI
          rw [e]
          exact decide_eq_true rfl
        show Q (.bl (decide (V.int (ffI m.tk) = V.int (-1)))) _
        rw [ee]
        have ek : tkBy m.tk = m.tk := by unfold tkBy; rw [e]
        exact k (tkBy m.tk) _ (tkBy_length _) S1 (by rw [ek]; exact hR1) fun b o eb n1 n2 n3 => b1 _ _ eb n1 n2
    · -- a slot is given back
      refine ⟨_, rfl, _, _, rfl, rfl, ⟨by decide, by decide⟩, _, rfl, rw', _, rfl, .inl (SqL.of hR), _, _, rfl, rfl, _, _, rfl, rfl, ?_, _, _, rfl, rfl, ?_⟩
      · show 0 < ((m.tk.map V.bl).length : Int) + 5
        omega
      obtain ⟨z, hz⟩ : ∃ z : Int, z = c / 2 % (((m.tk.map V.bl).length : Nat) + 5 : Int) - 2 := ⟨_, rfl⟩
      -- 0 <= slot < len(row) and row[slot]
      dsimp only
      rw [← hz]
      have good : ∀ Q' : VK, Q' (.bl (isOut m.tk z)) H → tAndV (tChain (rI0 fun i j => .bl (decide (i ≤ j))) (rI0 fun i j => .bl (decide (i < j))) (tC (.int 0)) (tVar 3)
          (tCB (fun xs H Q => ∃ p ys, xs = [.ref p] ∧ (SqL K H p ys ∨ SqT K H p ys) ∧ Q (.int ys.length) H) (tCons (tVar 1) tNil))) (tOp (rIxL K) (tVar 1) (tVar 3)) [some (.ref p), some (.ref rw'), some (.int c), some (.int z), none, none] H Q' := by
        intro Q' q
        refine ⟨_, rfl, _, _, rfl, rfl, _, rfl, ?_⟩
        refine iteD (fun h0 => ?_) (fun h0 => ?_)
        · refine ⟨_, rfl, rw', _, rfl, .inl (SqL.of hR), _, _, rfl, rfl, _, rfl, ?_⟩
          refine iteD (fun h1 => ?_) (fun h1 => ?_)
          · have h2 : z.toNat < m.tk.length := by rw [List.length_map] at h1; omega
            obtain ⟨b, hb⟩ : ∃ b, m.tk[z.toNat]? = some b := ⟨_, List.getElem?_eq_getElem h2⟩
            refine ⟨_, rfl, _, rfl, rw', _, _, .bl b, rfl, rfl, SqL.of hR, at_of (j := z.toNat) (by omega) (bl_at hb), ?_⟩
            have e : isOut m.tk z = b := by
              unfold isOut
              rw [decide_eq_true h0, List.getD_eq_getElem?_getD, hb]; rfl
            rw [e] at q
            exact q
          · have e : isOut m.tk z = false := by
              unfold isOut
              rw [List.length_map] at h1
              rw [List.getD_eq_getElem?_getD, List.getElem?_eq_none (by omega)]
              simp
            rw [e] at q
            exact q
        · refine ⟨_, rfl, iteF ?_⟩
          have e : isOut m.tk z = false := by unfold isOut; rw [decide_eq_false h0]; rfl
          rw [e] at q
          exact q
      refine good _ ?_
      refine ⟨_, rfl, _, rfl, ?_⟩
      refine iteB (fun hg => ?_) (fun hg => ?_)
      · have hz2 : 0 ≤ z ∧ z.toNat < m.tk.length := by
          unfold isOut at hg
          rw [Bool.and_eq_true, decide_eq_true_eq, List.getD_eq_getElem?_getD] at hg
          refine ⟨hg.1, ?_⟩
          cases e : m.tk[z.toNat]? with
          | none => rw [e] at hg; exact absurd hg.2 (by decide)
          | some b => exact (List.getElem?_eq_some_iff.mp e).1
        refine ⟨_, rfl, _, rfl, rw', _, _, z.toNat, rfl, rfl, hR, ?_, ?_⟩
        · rw [List.length_map, show z = ((z.toNat : Nat) : Int) by omega]; exact ixN_at hz2.2
        have S1 : ShAt A (upd H rw' (.lst ((m.tk.map V.bl).set z.toNat (.bl false)))) p t m := S.keep fun b o eb hb => by
          rw [upd_ne (by rcases hb with h | h <;> rw [h] <;> first | exact nrp.symm | exact nrt.symm)]; exact eb
        refine ⟨_, rfl, _, rfl, p, t, m, z, rfl, S1, hl, fun H2 S2 b2 => ?_⟩
        refine ⟨_, rfl, rfl, ?_⟩
        show Q (.bl (decide (V.bl (isOut m.tk z) = V.bl (isOut m.tk z)))) _
        rw [decide_eq_true rfl]
        have eg : gvBy m.tk z = m.tk.set z.toNat false := by unfold gvBy; rw [hg]; rfl
        refine k (gvBy m.tk z) _ (gvBy_length _ _) S2 ?_ fun b o eb n1 n2 n3 => ?_
        · rw [b2 rw' _ upd_same nrp nrt, eg, List.map_set]
        · exact b2 _ _ (by rw [upd_ne n3]; exact eb) n1 n2
      · refine ⟨_, rfl, _, rfl, p, t, m, z, rfl, S, hl, fun H2 S2 b2 => ?_⟩
        refine ⟨_, rfl, rfl, ?_⟩
        show Q (.bl (decide (V.bl (isOut m.tk z) = V.bl (isOut m.tk z)))) _
        rw [decide_eq_true rfl]
        have eg : gvBy m.tk z = m.tk := by unfold gvBy; rw [hg]; rfl
        refine k (gvBy m.tk z) _ (gvBy_length _ _) S2 ?_ fun b o eb n1 n2 n3 => b2 _ _ eb n1 n2
        rw [eg]
        exact b2 _ _ hR nrp nrt
theorem frs_len (l : List Bool) : (frs_ l).length + cnt l = l.length := by
  have key : ∀ n, n ≤ l.length → ((List.range n).filter fun k => !(l.getD k true)).length + (l.take n).count true = n := by
    intro n
    induction n with
    | zero => intro _; simp
    | succ n ih =>
      intro hn
      have h1 := ih (by omega)
      obtain ⟨b, hb⟩ : ∃ b, l[n]? = some b := ⟨_, List.getElem?_eq_getElem (by omega)⟩
      have eg : l.getD n true = b := by rw [List.getD_eq_getElem?_getD, hb]; rfl
      have h2 : (if b = true then ([] : List Nat) else [n]).length + (Option.toList (some b)).count true = 1 := by cases b <;> rfl
      rw [frs_succ, List.length_append, eg, List.take_succ, hb, List.count_append]
      omega
  have := key l.length (Nat.le_refl _)
  rw [List.take_length] at this
  exact this
/-- what was told lately: a list and its copy, off the addresses av -/
def KptAt (av : List Addr) (H : Hp) (kp : Addr) : Prop := ∃ xs, H kp = some (.lst xs) ∧ (xs = [] ∨ ∃ (tp f c : Addr) (l : List Int), xs = [.ref tp] ∧ H tp = some (.tup [.ref f, .ref c]) ∧
  H f = some (.lst (l.map V.int)) ∧ H c = some (.lst (l.map V.int)) ∧ tp ∉ av ∧ f ∉ av ∧ c ∉ av)
theorem KptAt.keep {av : List Addr} {H H' : Hp} {kp : Addr} (k : KptAt av H kp) (h : ∀ b o, H b = some o → b = kp ∨ b ∉ av → H' b = some o) : KptAt av H' kp := by
  obtain ⟨xs, h1, h2⟩ := k
  refine ⟨xs, h _ _ h1 (.inl rfl), ?_⟩
  rcases h2 with h2 | ⟨tp, f, c, l, e, a1, a2, a3, n1, n2, n3⟩
  · exact .inl h2
  · exact .inr ⟨tp, f, c, l, e, h _ _ a1 (.inr n1), h _ _ a2 (.inr n2), h _ _ a3 (.inr n3), n1, n2, n3⟩
def sp_law_stands (K : PySem.W.Frag) (A : Ad) : Sp := fun vs H Q _ => ∃ (p t rw kp : Addr) (m : ShM) (av : List Addr), vs = [.ref p, .ref rw, .ref kp] ∧ ShAt A H p t m ∧ H rw = some (.lst (m.tk.map V.bl)) ∧ KptAt av H kp ∧
  m.tk.length ≤ 1000 ∧ kp ∈ av ∧ kp ≠ t ∧ kp ≠ rw ∧ (∀ b ∈ av, ∃ o, H b = some o) ∧
  ∀ H', KptAt av H' kp → (∀ b o, H b = some o → b ≠ kp → H' b = some o) → Q (.bl true) H'
theorem notin_fresh {av : List Addr} {H : Hp} {x : Addr} (h : ∀ b ∈ av, ∃ o, H b = some o) (n : H x = none) : x ∉ av := fun hx => by
  obtain ⟨o, e⟩ := h x hx
  rw [n] at e
  cases e
theorem ok_law_stands (T : Tx K mg A) : Df P w K mg base 2 "_law_stands" ["_law_shelf", "_law_row", "_law_kept"] (sp_law_stands K A) := by
  refine Dd.ok T.d_law_stands sc_law_stands bi_law_stands (fun vs H Q E h => ?_) (fun f cdv Ar outer s H vs Q E hr h => ?_)
  · obtain ⟨p, t, rw, kp, m, av, rfl, _⟩ := h; rfl
  · obtain ⟨p, t, rw', kp, m, av, rfl, S, hR, hK, hl, kav, nkt, nkr, hav, k⟩ := h
    refine ⟨_, (pss_cons (ps_for (passes_of rfl) rfl (pi_list (pv 2)) (pg_tup (by rfl) (pgs_cons (pg_name (i := 3) sc_law_stands.nd rfl (Or.inl rfl)) (pgs_cons (pg_name (i := 4) sc_law_stands.nd rfl (Or.inl rfl)) pgs_nil)))
    (pss_one (ps_if (pt_cmpR (op_neD hr.units) (pv 3) (pv 4) (nomark _)) (pss_one (ps_ret pe_bl))
    pss_nil)))
    (pss_cons (ps_setLc (i := 5) (own := [("_law_slot", 6)]) (g := gName 6) (tt := (tNot (tB (tOp (rIxL K) (tVar 1) (tVar 6))))) (te := (tVar 6)) rfl sc_law_stands.nd rfl rfl (sw_true rfl rfl rfl (by decide +kernel)) (pi_range1 (by rfl) T.z_range (pa_cons (pe_callB call_len_seq (by rfl) T.z_len (by decide +kernel) (pa_cons (pv 1) pa_nil)) pa_nil)) (blkOk_by (own := [("_law_slot", 6)]) (N := ["_law_shelf", "_law_row", "_law_kept", "_law_one", "_law_copy", "_law_free", "_law_slot", "_law_found", "_law_many", "_law_later"]) (sc := defScope s_law_stands) (by decide +kernel)) (fun _ _ _ _ _ => pg_name (i := 6) sc_law_stands.nd rfl (Or.inl rfl)) (fun _ _ _ _ _ => pts_one (pt_not (pt_val (pe_ix ix_list (pv 1) (pv 6) (fun _ _ => rfl))))) (fun _ _ _ _ _ => (pv 6)))
    (pss_cons (ps_set (i := 7) sc_law_stands.nd rfl (Or.inl rfl) (pe_mf0 (ok_Shelf_free T) T.c_Shelf hr (by decide) (pv 0)))
    (pss_cons (ps_set (i := 8) sc_law_stands.nd rfl (Or.inl rfl) (pe_mf0 (ok_Shelf_out T) T.c_Shelf hr (by decide) (pv 0)))
    (pss_cons (ps_if (PW.pt (pw_or (pt_not (pt_val (pe_callB call_isi (by rfl) T.z_isinstance (by decide +kernel) (pa_cons (pv 7) (pa_cons (pe_bltn (v := .ty "list") (by rfl) T.z_list (by decide +kernel) rfl) pa_nil))))) (pw_or (pt_not (pt_val (pe_df (ok_law_whole T) hr (by decide) (by rfl) (pa_cons (pv 8) pa_nil)))) (pw_or1 (pt_cmpR op_ne (pv 8) (pe_op op_sub (pe_callB call_len_seq (by rfl) T.z_len (by decide +kernel) (pa_cons (pv 1) pa_nil)) (pe_callB call_len_seq (by rfl) T.z_len (by decide +kernel) (pa_cons (pv 5) pa_nil))) (nomark _)))))) (pss_one (ps_ret pe_bl))
    pss_nil)
    (pss_cons (ps_for (passes_of rfl) rfl (pi_list (pv 7)) (pg_name (i := 6) sc_law_stands.nd rfl (Or.inl rfl))
    (pss_one (ps_if (pt_not (pt_val (pe_df (ok_law_whole T) hr (by decide) (by rfl) (pa_cons (pv 6) pa_nil)))) (pss_one (ps_ret pe_bl))
    pss_nil)))
    (pss_cons (ps_if (pt_cmpR (op_neD hr.units) (pv 7) (pv 5) (nomark _)) (pss_one (ps_ret pe_bl))
    pss_nil)
    (pss_cons (ps_expr (pe_bm0 PySem.F.plainAttrs_list PySem.F.slot_list_clear PySem.F.type_list_clear mt_clear (pv 2)))
    (pss_cons (ps_expr (pe_bm PySem.F.plainAttrs_list PySem.F.slot_list_append PySem.F.type_list_append mt_append (pv 2) (pa_cons (pe_tup (pa_cons (pv 7) (pa_cons (pe_callTy call_list_of (by rfl) T.z_list (by decide +kernel) (pa_cons (pv 7) pa_nil)) pa_nil))) pa_nil)))
    (pss_cons (ps_set (i := 9) sc_law_stands.nd rfl (Or.inl rfl) (pe_mf0 (ok_Shelf_free T) T.c_Shelf hr (by decide) (pv 0)))
    (pss_cons (ps_expr (pe_bm PySem.F.plainAttrs_list PySem.F.slot_list_append PySem.F.type_list_append mt_append (pv 9) (pa_cons (pe_callB call_len_seq (by rfl) T.z_len (by decide +kernel) (pa_cons (pv 1) pa_nil)) pa_nil)))
    (pss_one (ps_ret (pe_cmpR (op_eqD hr.units) (pe_mf0 (ok_Shelf_free T) T.c_Shelf hr (by decide) (pv 0)) (pv 5) (nomark _))))))))))))))), ?_⟩
    obtain ⟨xs, hk1, hk2⟩ := id hK
    -- the lists told lately
    refine ⟨_, rfl, kp, rfl, ⟨_, SqL.of hk1⟩, for_list (K := K) (a := kp) (xs := xs) (fun i σ H' => H' = H ∧ ∃ v3 v4, σ = [some (.ref p), some (.ref rw'), some (.ref kp), v3, v4, none, none, none, none, none]) ⟨rfl, _, _, rfl⟩ (fun i σ H' _ h => by rw [h.1]; exact SqL.of hk1) ?_ ?_⟩
    · rintro i x σ H' hx ⟨rfl, v3, v4, rfl⟩
      rcases hk2 with rfl | ⟨tp, f, c, l, rfl, a1, a2, a3, _⟩
      · cases hx
      · have e : x = .ref tp := by
          cases i with
          | zero => exact (Option.some.inj hx).symm
          | succ i => cases hx
        subst e
        refine ⟨tp, _, rfl, SqT.of a1, rfl, _, _, rfl, _, _, rfl, rfl, ?_⟩
        refine ⟨_, rfl, _, rfl, dInts l, dInts l, dp_ints (SqL.of a2), dp_ints (SqL.of a3), (sh_ints l).shaped (by decide), (sh_ints l).shaped (by decide), _, rfl, ?_⟩
        rw [(sh_ints l).refl]
        exact iteF ⟨rfl, _, _, rfl⟩
    · rintro σ H' ⟨rfl, v3, v4, rfl⟩
      -- _law_free = [..]
      refine ⟨_, rfl, rw', _, rfl, .inl (SqL.of hR), _, rfl, (by omega), (by rw [List.length_map]; omega), ?_⟩
      intro D hD
      refine lc_range (lo := 0) (n := _) (fun i H1 => Same H' H1 ∧ H1 D = some (.lst ((((List.range i).filter fun k => !(m.tk.getD k true))).map fun i => V.int (i : Nat)))) ⟨fun b o e => by rw [upd_ne (ne_of_none e hD)]; exact e, upd_same⟩ ?_ ?_
      · rintro i H1 hi ⟨sm, hH⟩
        have hi2 : i < m.tk.length := by simpa using hi
        obtain ⟨b, hb⟩ : ∃ b, m.tk[i]? = some b := ⟨_, List.getElem?_eq_getElem hi2⟩
        refine ⟨rfl, ?_⟩
        refine ⟨_, rfl, _, rfl, rw', _, _, .bl b, rfl, rfl, SqL.of (sm _ _ hR), at_of (j := i) (by omega) (bl_at hb), _, rfl, ?_⟩
        have eg : m.tk.getD i true = b := by rw [List.getD_eq_getElem?_getD, hb]; rfl
        refine iteNB (fun h => ?_) (fun h => ?_)
        · subst h
          refine ⟨_, rfl, _, hH, ?_, ?_, ?_⟩
          · rw [List.length_map]
            refine Nat.lt_of_le_of_lt (List.length_filter_le _ _) ?_
            rw [List.length_range]
            exact Nat.lt_of_lt_of_le (Nat.lt_of_lt_of_le hi2 hl) (by decide)
          · intro b o e
            rw [upd_ne (ne_of_none e hD)]
            exact sm b o e
          · rw [upd_same, frs_succ, eg]
            simp
        · subst h
          refine ⟨sm, ?_⟩
          rw [hH, frs_succ, eg]
          simp
      rintro H1 ⟨sm1, hD1⟩
      have eD : H1 D = some (.lst (((frs_ m.tk).map fun i : Nat => (i : Int)).map V.int)) := by
        rw [hD1]
        simp [frs_]
      have S1 : ShAt A H1 p t m := S.keep fun b o e _ => sm1 b o e
      obtain ⟨dx1, o1⟩ := S1.ob
      -- found = shelf.free()
      refine ⟨_, rfl, p, dx1, _, rfl, o1, shF_no_free _ _ _, p, t, m, rfl, S1, hl, fun q H2 hq hq2 sm2 => ?_⟩
      have e2 : H2 q = some (.lst (((frs_ m.tk).map fun i : Nat => (i : Int)).map V.int)) := by
        rw [hq2, List.map_map]
        rfl
      have S2 : ShAt A H2 p t m := S1.keep fun b o e _ => sm2 b o e
      obtain ⟨dx2, o2⟩ := S2.ob
      -- many = shelf.out()
      refine ⟨_, rfl, p, dx2, _, rfl, o2, shF_no_out _ _ _, p, t, m, rfl, S2, ?_⟩
      -- the first test
      refine ⟨_, rfl, _, _, _, _, true, rfl, .ty _, tLst e2, kit_ty (by decide +kernel), _, rfl, ?_⟩
      refine iteF ⟨_, rfl, .int (cnt m.tk), "int", rfl, tInt, (by decide), _, rfl, ?_⟩
      refine iteF ⟨_, rfl, _, rfl, rw', _, rfl, .inl (SqL.of (sm2 _ _ (sm1 _ _ hR))), _, rfl, D, _, rfl, .inl (SqL.of (sm2 _ _ eD)), _, _, rfl, rfl, rfl, _, rfl, ?_⟩
      have en : (cnt m.tk : Int) = ((m.tk.map V.bl).length : Nat) - (((((frs_ m.tk).map fun i : Nat => (i : Int)).map V.int).length : Nat) : Int) := by
        have := frs_len m.tk
        simp only [List.length_map]
        omega
      refine iteND (fun h => absurd (congrArg V.int en) h) (fun _ => ?_)
      -- each of them is a whole number
      refine ⟨_, rfl, q, rfl, ⟨_, SqL.of e2⟩, for_list (K := K) (a := q) (xs := ((frs_ m.tk).map fun i : Nat => (i : Int)).map V.int) (fun i σ H3 => H3 = H2 ∧ ∃ v6, σ = [some (.ref p), some (.ref rw'), some (.ref kp), v3, v4, some (.ref D), v6, some (.ref q), some (.int (cnt m.tk)), none]) ⟨rfl, _, rfl⟩ (fun i σ H' _ h => by rw [h.1]; exact SqL.of e2) ?_ ?_⟩
      · rintro i x σ H3 hx ⟨rfl, v6, rfl⟩
        obtain ⟨z, rfl⟩ : ∃ z, x = V.int z := by
          rw [List.getElem?_map] at hx
          cases e : (((frs_ m.tk).map fun i : Nat => (i : Int)))[i]? with
          | none => rw [e] at hx; cases hx
          | some z => rw [e] at hx; exact ⟨z, (Option.some.inj hx).symm⟩
        refine ⟨_, rfl, .int z, "int", rfl, tInt, (by decide), _, rfl, ?_⟩
        exact iteF ⟨rfl, _, rfl⟩
      rintro σ H3 ⟨rfl, v6, rfl⟩
      -- found != free
      refine ⟨_, rfl, _, rfl, _, _, dp_ints (SqL.of e2), dp_ints (SqL.of (sm2 _ _ eD)), (sh_ints _).shaped (by decide), (sh_ints _).shaped (by decide), _, rfl, ?_⟩
      rw [(sh_ints _).refl]
      refine iteF ?_
      -- kept.clear(); kept.append((found, list(found)))
      have k3 : H3 kp = some (.lst xs) := sm2 _ _ (sm1 _ _ hk1)
      refine ⟨_, rfl, .inl ⟨rfl, _, SqL.of k3⟩, kp, _, rfl, rfl, k3, ?_⟩
      have nqk : q ≠ kp := fun e => by rw [e] at hq; rw [sm1 _ _ hk1] at hq; cases hq
      refine ⟨_, rfl, .inl ⟨rfl, _, SqL.of upd_same⟩, ?_⟩
      have e4 : (upd H3 kp (.lst [])) q = some (.lst (((frs_ m.tk).map fun i : Nat => (i : Int)).map V.int)) := by rw [upd_ne nqk]; exact e2
      refine ⟨_, rfl, _, rfl, q, _, rfl, .inl (SqL.of e4), fun c hc => ?_⟩
      have nck : c ≠ kp := fun e => by rw [e, upd_same] at hc; cases hc
      have ncq : c ≠ q := fun e => by rw [e, e4] at hc; cases hc
      have hc3 : H3 c = none := by rw [upd_ne nck] at hc; exact hc
      refine ⟨(by show 2 ≤ sizeLine; decide), fun tp htp => ?_⟩
      have ntc : tp ≠ c := fun e => by rw [e, upd_same] at htp; cases htp
      have ntk : tp ≠ kp := fun e => by rw [e, upd_ne nck.symm, upd_same] at htp; cases htp
      have ntq : tp ≠ q := fun e => by rw [e, upd_ne ncq.symm, e4] at htp; cases htp
      have ht3 : H3 tp = none := by rw [upd_ne ntc, upd_ne ntk] at htp; exact htp
      refine ⟨kp, _, _, rfl, rfl, (by rw [upd_ne ntk.symm, upd_ne nck.symm]; exact upd_same), (by decide), ?_⟩
      generalize hH5 : upd (upd (upd (upd H3 kp (.lst [])) c (.lst (((frs_ m.tk).map fun i : Nat => (i : Int)).map V.int))) tp (.tup [.ref q, .ref c])) kp (.lst ([] ++ [.ref tp])) = H5
      have sm5 : ∀ b o, H3 b = some o → b ≠ kp → H5 b = some o := fun b o e n => by
        rw [← hH5, upd_ne n, upd_ne (ne_of_none e ht3), upd_ne (ne_of_none e hc3), upd_ne n]
        exact e
      have fr5 : ∀ b, H5 b = none → H3 b = none := fun b e => by
        cases q : H3 b with
        | none => rfl
        | some o =>
          by_cases n : b = kp
          · rw [n, ← hH5, upd_same] at e; cases e
          · rw [sm5 _ _ q n] at e; cases e
      have K5 : KptAt av H5 kp := by
        have a1 : ∀ {x : Addr}, H3 x = none → x ∉ av := fun {x} n => notin_fresh hav (by
          cases e : H' x with
          | none => rfl
          | some o => rw [sm2 _ _ (sm1 _ _ e)] at n; cases n)
        refine ⟨_, by rw [← hH5, upd_same]; rfl, .inr ⟨tp, q, c, (frs_ m.tk).map fun i : Nat => (i : Int), rfl, ?_, ?_, ?_, a1 ht3, ?_, a1 hc3⟩⟩
        · rw [← hH5, upd_ne ntk, upd_same]
        · exact sm5 _ _ e2 nqk
        · rw [← hH5, upd_ne nck, upd_ne ntc.symm, upd_same]
        · exact notin_fresh hav (by
            cases e : H' q with
            | none => rfl
            | some o => rw [sm1 _ _ e] at hq; cases hq)
      have S5 : ShAt A H5 p t m := S2.keep fun b o e hb => sm5 b o e (by
        rcases hb with h | h
        · rw [h]; exact fun z => ne_of k3 o2 (by intro z; cases z) z.symm
        · rw [h]; exact nkt.symm)
      obtain ⟨dx5, o5⟩ := S5.ob
      have e5 : H5 D = some (.lst (((frs_ m.tk).map fun i : Nat => (i : Int)).map V.int)) := sm5 _ _ (sm2 _ _ eD) (fun e => by rw [e, hk1] at hD; cases hD)
      have hR5 : H5 rw' = some (.lst (m.tk.map V.bl)) := sm5 _ _ (sm2 _ _ (sm1 _ _ hR)) nkr.symm
      -- later = shelf.free(); later.append(len(row))
      refine ⟨_, rfl, p, dx5, _, rfl, o5, shF_no_free _ _ _, p, t, m, rfl, S5, hl, fun r H6 hr6 er6 sm6 => ?_⟩
      refine ⟨_, rfl, .inl ⟨rfl, _, SqL.of er6⟩, ?_⟩
      refine ⟨_, rfl, rw', _, rfl, .inl (SqL.of (sm6 _ _ hR5)), r, _, _, rfl, rfl, er6, ?_, ?_⟩
      · rw [List.length_map]
        have := frs_len m.tk
        exact Nat.lt_of_le_of_lt (by omega : _ ≤ 1000) (by decide)
      generalize hH7 : upd H6 r _ = H7
      have sm7 : Same H5 H7 := fun b o e => by
        rw [← hH7, upd_ne (ne_of_none e hr6)]
        exact sm6 _ _ e
      have S7 : ShAt A H7 p t m := S5.keep fun b o e _ => sm7 b o e
      obtain ⟨dx7, o7⟩ := S7.ob
      -- return shelf.free() == free
      refine ⟨_, rfl, p, dx7, _, rfl, o7, shF_no_free _ _ _, p, t, m, rfl, S7, hl, fun r8 H8 hr8 er8 sm8 => ?_⟩
      have e8 : H8 r8 = some (.lst (((frs_ m.tk).map fun i : Nat => (i : Int)).map V.int)) := by
        rw [er8, List.map_map]
        rfl
      refine ⟨_, rfl, _, _, dp_ints (SqL.of e8), dp_ints (SqL.of (sm8 _ _ (sm7 _ _ e5))), (sh_ints _).shaped (by decide), (sh_ints _).shaped (by decide), ?_⟩
      rw [(sh_ints _).refl]
      exact k H8 (K5.keep fun b o e _ => sm8 _ _ (sm7 _ _ e)) fun b o e n => sm8 _ _ (sm7 _ _ (sm5 _ _ (sm2 _ _ (sm1 _ _ e)) n))
theorem cut_int {ns : List Int} {lo hi : Option Int} {i : Nat} {x : V} (h : (cutV (ns.map V.int) lo hi)[i]? = some x) : ∃ z, x = V.int z := by
  have h1 : x ∈ cutV (ns.map V.int) lo hi := List.mem_of_getElem? h
  unfold cutV at h1
  obtain ⟨z, _, e⟩ := List.mem_map.mp (List.mem_of_mem_drop (List.mem_of_mem_take h1))
  exact ⟨z, e.symm⟩
def sp_law (K : PySem.W.Frag) (A : Ad) : Sp := fun vs H Q _ => ∃ (a : Addr) (ns : List Int), vs = [.ref a] ∧ SqL K H a (ns.map V.int) ∧ ns.length ≤ 63 ∧ ∀ H', Q (.bl true) H'
/-- what stands between two turns -/
structure Wk (K : PySem.W.Frag) (A : Ad) (H0 H : Hp) (p t p2 t2 rw kp : Addr) (m m2 : ShM) : Prop where
  sm : Same H0 H
  sh : ShAt A H p t m
  ot : ShAt A H p2 t2 m2
  row : H rw = some (.lst (m.tk.map V.bl))
  kept : KptAt [p, t, p2, t2, rw, kp] H kp
  fresh : H0 p = none ∧ H0 t = none ∧ H0 rw = none ∧ H0 kp = none
  dis : rw ≠ t ∧ kp ≠ t ∧ kp ≠ rw ∧ p2 ≠ p ∧ t2 ≠ t ∧ t2 ≠ rw ∧ t2 ≠ kp
theorem Wk.all {K : PySem.W.Frag} {A : Ad} {H0 H : Hp} {p t p2 t2 rw kp : Addr} {m m2 : ShM} (W : Wk K A H0 H p t p2 t2 rw kp m m2) : ∀ b ∈ [p, t, p2, t2, rw, kp], ∃ o, H b = some o := by
  obtain ⟨d, h1⟩ := W.sh.ob
  obtain ⟨d2, h2⟩ := W.ot.ob
  obtain ⟨xs, h3, _⟩ := W.kept
  intro b hb
  simp only [List.mem_cons, List.mem_nil_iff, or_false] at hb
  rcases hb with rfl | rfl | rfl | rfl | rfl | rfl
  · exact ⟨_, h1⟩
  · exact ⟨_, W.sh.tk⟩
  · exact ⟨_, h2⟩
  · exact ⟨_, W.ot.tk⟩
  · exact ⟨_, W.row⟩
  · exact ⟨_, h3⟩
/-- behind a stands -/
theorem Wk.stood {K : PySem.W.Frag} {A : Ad} {H0 H H' : Hp} {p t p2 t2 rw kp : Addr} {m m2 : ShM} (W : Wk K A H0 H p t p2 t2 rw kp m m2) (hk : KptAt [p, t, p2, t2, rw, kp] H' kp) (b : ∀ b o, H b = some o → b ≠ kp → H' b = some o) : Wk K A H0 H' p t p2 t2 rw kp m m2 := by
  obtain ⟨d, h1⟩ := W.sh.ob
  obtain ⟨d2, h2⟩ := W.ot.ob
  obtain ⟨xs, h3, _⟩ := W.kept
  have f := W.fresh
  have n := W.dis
  refine ⟨fun c o e => b _ _ (W.sm _ _ e) (ne_of_none e f.2.2.2), W.sh.keep fun c o e hc => b _ _ e ?_, W.ot.keep fun c o e hc => b _ _ e ?_, b _ _ W.row n.2.2.1.symm, hk, f, n⟩
  · rcases hc with q | q
    · rw [q]; exact ne_of h1 h3 (by intro z; cases z)
    · rw [q]; exact n.2.1.symm
  · rcases hc with q | q
    · rw [q]; exact ne_of h2 h3 (by intro z; cases z)
    · rw [q]; exact n.2.2.2.2.2.2
theorem Wk.done {K : PySem.W.Frag} {A : Ad} {H0 H H' : Hp} {p t p2 t2 rw kp : Addr} {m m2 : ShM} {tk' : List Bool} (W : Wk K A H0 H p t p2 t2 rw kp m m2) (S : ShAt A H' p t { m with tk := tk' }) (R : H' rw = some (.lst (tk'.map V.bl)))
    (b : ∀ b o, H b = some o → b ≠ p → b ≠ t → b ≠ rw → H' b = some o) : Wk K A H0 H' p t p2 t2 rw kp { m with tk := tk' } m2 := by
  obtain ⟨d, h1⟩ := W.sh.ob
  obtain ⟨d2, h2⟩ := W.ot.ob
  obtain ⟨xs, h3, _⟩ := W.kept
  have f := W.fresh
  have n := W.dis
  refine ⟨fun c o e => b _ _ (W.sm _ _ e) (ne_of_none e f.1) (ne_of_none e f.2.1) (ne_of_none e f.2.2.1), S, W.ot.keep fun c o e hc => ?_, R, W.kept.keep fun c o e hc => ?_, f, n⟩
  · rcases hc with q | q
    · rw [q] at e ⊢
      exact b _ _ e n.2.2.2.1 (ne_of h2 W.sh.tk (by intro z; cases z)) (ne_of h2 W.row (by intro z; cases z))
    · rw [q] at e ⊢
      exact b _ _ e (ne_of W.ot.tk h1 (by intro z; cases z)) n.2.2.2.2.1 n.2.2.2.2.2.1
  · rcases hc with q | q
    · rw [q] at e ⊢
      exact b _ _ e (ne_of h3 h1 (by intro z; cases z)) n.2.1 n.2.2.1
    · simp only [List.mem_cons, not_or] at q
      exact b _ _ e q.1 q.2.1 q.2.2.2.2.1
theorem ok_law (T : Tx K mg A) {f : Addr} {fd : FuncData} (F : FnP K "law" "law" s_law f fd) : FnOk P w K mg base CX0 5 f fd ["_law_script"] (sp_law K A) := by
  refine L2.FunD.ok F sc_law (fun vs H Q E h => ?_) (fun cdv Ar outer s H vs Q E hr h => ?_)
  · obtain ⟨a, ns, rfl, _⟩ := h; rfl
  · obtain ⟨a, ns, rfl, hS, hlen, k⟩ := h
    refine ⟨_, (pss_cons (ps_set (i := 1) sc_law.nd rfl (Or.inl rfl) (pe_op op_mod (pe_df (ok_law_cell_at T) hr (by decide) (by rfl) (pa_cons (pv 0) (pa_cons pe_int pa_nil))) pe_int))
    (pss_cons (ps_set (i := 2) sc_law.nd rfl (Or.inl rfl) (pe_op op_add pe_int (pe_op op_mod (pe_df (ok_law_cell_at T) hr (by decide) (by rfl) (pa_cons (pv 0) (pa_cons pe_int pa_nil))) pe_int)))
    (pss_cons (ps_set (i := 3) sc_law.nd rfl (Or.inl rfl) (pe_op op_add pe_int (pe_op op_mod (pe_df (ok_law_cell_at T) hr (by decide) (by rfl) (pa_cons (pv 0) (pa_cons pe_int pa_nil))) pe_int)))
    (Evl.pss_cut (ps_if (pt_cmpR op_eq (pe_op op_mod (pe_op op_fdiv (pe_df (ok_law_cell_at T) hr (by decide) (by rfl) (pa_cons (pv 0) (pa_cons pe_int pa_nil))) pe_int) pe_int) pe_int (nomark _)) (pss_one (ps_set (i := 3) sc_law.nd rfl (Or.inl rfl) (pe_op op_add pe_int (pe_op op_mod (pe_op op_fdiv (pe_df (ok_law_cell_at T) hr (by decide) (by rfl) (pa_cons (pv 0) (pa_cons pe_int pa_nil))) pe_int) pe_int))))
    pss_nil)
    (pss_cons (ps_set (i := 4) sc_law.nd rfl (Or.inl rfl) (pe_if (ok_Shelf_init T) T.g_Shelf hr (by decide) (by rfl) (pa_cons (pv 1) (pa_cons (pv 2) (pa_cons (pv 3) pa_nil)))))
    (pss_cons (ps_set (i := 5) sc_law.nd rfl (Or.inl rfl) (pe_if (ok_Shelf_init T) T.g_Shelf hr (by decide) (by rfl) (pa_cons (pv 1) (pa_cons (pv 2) (pa_cons (pv 3) pa_nil)))))
    (pss_cons (ps_if (pt_cmpR op_ne (pe_mf0 (ok_Shelf_take T) T.c_Shelf hr (by decide) (pv 5)) pe_int (nomark _)) (pss_one (ps_ret pe_bl))
    pss_nil)
    (pss_cons (ps_set (i := 6) sc_law.nd rfl (Or.inl rfl) (pe_op op_rep (pe_lst (pa_cons pe_bl pa_nil)) (pv 3)))
    (pss_cons (ps_set (i := 7) sc_law.nd rfl (Or.inl rfl) (pe_lst pa_nil))
    (pss_cons (ps_for (passes_of rfl) rfl (pi_list (pe_slice sl_list (pv 0) (po_some pe_int) po_none)) (pg_name (i := 8) sc_law.nd rfl (Or.inl rfl))
    (pss_one (ps_if (PW.pt (pw_or (pt_not (pt_val (pe_df (ok_law_deed T) hr (by decide) (by rfl) (pa_cons (pv 4) (pa_cons (pv 6) (pa_cons (pv 8) pa_nil)))))) (pw_or1 (pt_not (pt_val (pe_df (ok_law_stands T) hr (by decide) (by rfl) (pa_cons (pv 4) (pa_cons (pv 6) (pa_cons (pv 7) pa_nil))))))))) (pss_one (ps_ret pe_bl))
    pss_nil)))
    (pss_cons (ps_if (PW.pt (pw_or (pt_not (pt_val (pe_df (ok_law_whole T) hr (by decide) (by rfl) (pa_cons (pe_fld (pv 4) rfl) pa_nil)))) (pw_or (pt_cmpR op_ne (pe_fld (pv 4) rfl) (pv 1) (nomark _)) (pw_or1 (pt_cmpR op_ne (pe_fld (pv 4) rfl) (pv 2) (nomark _)))))) (pss_one (ps_ret pe_bl))
    pss_nil)
    (pss_one (ps_ret (pe_and (pe_df (ok_law_stands T) hr (by decide) (by rfl) (pa_cons (pv 4) (pa_cons (pv 6) (pa_cons (pv 7) pa_nil)))) (pe_one (pe_df (ok_law_stands T) hr (by decide) (by rfl) (pa_cons (pv 5) (pa_cons (pe_op op_cat (pe_lst (pa_cons pe_bl pa_nil)) (pe_op op_rep (pe_lst (pa_cons pe_bl pa_nil)) (pe_op op_sub (pv 3) pe_int))) (pa_cons (pe_lst pa_nil) pa_nil))))))))))))))))))), ?_⟩
    refine ⟨_, rfl, a, ns, 0, rfl, hS, _, _, rfl, rfl, (by show (0 : Int) < 40; decide), ?_⟩
    refine ⟨_, rfl, a, ns, 1, rfl, hS, _, _, rfl, rfl, (by show (0 : Int) < 60; decide), _, _, rfl, rfl, ?_⟩
    refine ⟨_, rfl, a, ns, 2, rfl, hS, _, _, rfl, rfl, (by show (0 : Int) < 9; decide), _, _, rfl, rfl, ?_⟩
    refine ⟨fun σ H' => H' = H ∧ ∃ n : Nat, 1 ≤ n ∧ n ≤ 60 ∧ σ = [some (.ref a), some (.int (cellAt ns 0 % 40)), some (.int (1 + cellAt ns 1 % 60)), some (.int n), none, none, none, none, none], ?_, ?_⟩
    · refine ⟨_, rfl, a, ns, 2, rfl, hS, _, _, rfl, rfl, ⟨by decide, by decide⟩, _, _, rfl, rfl, (by show (0 : Int) < 8; decide), rfl, _, rfl, ?_⟩
      refine iteD (fun _ => ?_) (fun _ => ?_)
      · refine ⟨_, rfl, a, ns, 2, rfl, hS, _, _, rfl, rfl, ⟨by decide, by decide⟩, _, _, rfl, rfl, (by show (0 : Int) < 60; decide), _, _, rfl, rfl, ?_⟩
        refine ⟨rfl, (1 + cellAt ns 2 / 72 % 60).toNat, by omega, by omega, ?_⟩
        rw [show (((1 + cellAt ns 2 / 72 % 60).toNat : Nat) : Int) = 1 + cellAt ns 2 / 72 % 60 by omega]
        rfl
      · refine ⟨rfl, (1 + cellAt ns 2 % 9).toNat, by omega, by omega, ?_⟩
        rw [show (((1 + cellAt ns 2 % 9).toNat : Nat) : Int) = 1 + cellAt ns 2 % 9 by omega]
        rfl
    rintro σ H' ⟨rfl, n, hn1, hn2, rfl⟩
    generalize cellAt ns 0 % 40 = pg
    generalize 1 + cellAt ns 1 % 60 = sz
    -- the two shelves
    refine ⟨_, rfl, _, rfl, _, rfl, fun p dp np ndp nep => ?_⟩
    refine ⟨p, dp, pg, sz, n, rfl, by omega, upd_same, fun t H1 ht S1 kp1 => ⟨rfl, ?_⟩⟩
    have nH0p : H' p = none := np
    have s1 : Same H' H1 := Same.made np ndp kp1
    refine ⟨_, rfl, _, rfl, _, rfl, fun p2 dp2 np2 ndp2 nep2 => ?_⟩
    refine ⟨p2, dp2, pg, sz, n, rfl, by omega, upd_same, fun t2 H2 ht2 S2 kp2 => ⟨rfl, ?_⟩⟩
    have s2 : Same H1 H2 := Same.made np2 ndp2 kp2
    obtain ⟨dx1, o1⟩ := S1.ob
    have S12 : ShAt A H2 p t ⟨pg, sz, List.replicate n false⟩ := S1.keep fun b o e _ => s2 _ _ e
    have np2p : p2 ≠ p := fun e => by rw [e, o1] at np2; cases np2
    have ht0 : H' t = none := made_free np ndp ht
    have ht20 : H1 t2 = none := made_free np2 ndp2 ht2
    have nt2t : t2 ≠ t := fun e => by rw [e, S1.tk] at ht20; cases ht20
    obtain ⟨dx2, o2⟩ := S2.ob
    -- if other.take() != 0
    have hff : ff (List.replicate n false) = some 0 := ff_some (fun i hi => absurd hi (Nat.not_lt_zero i)) (by rw [List.getElem?_replicate, if_pos (by omega)])
    refine ⟨_, rfl, p2, dx2, _, rfl, o2, shF_no_take _ _ _, p2, t2, _, rfl, S2, (by simp; omega), (fun h => by rw [hff] at h; cases h), fun j H3 ej S3 b3 => ?_⟩
    obtain rfl : j = 0 := by rw [hff] at ej; exact (Option.some.inj ej).symm
    refine ⟨rfl, _, rfl, ?_⟩
    refine iteND (fun h => absurd rfl h) (fun _ => ?_)
    have S13 : ShAt A H3 p t ⟨pg, sz, List.replicate n false⟩ := S12.keep fun b o e hb => b3 _ _ e (by
      rcases hb with h | h
      · rw [h]; exact np2p.symm
      · rw [h]; exact ne_of S12.tk o2 (by intro z; cases z)) (by
      rcases hb with h | h
      · rw [h]; exact fun e => by
          obtain ⟨d, o⟩ := S12.ob
          exact ne_of o S2.tk (by intro z; cases z) e
      · rw [h]; exact nt2t.symm)
    have s3 : Same H' H3 := fun b o e => b3 _ _ (s2 _ _ (s1 _ _ e)) (ne_of_none (s1 _ _ e) np2) (ne_of_none (s1 _ _ e) ht20)
    -- row = [False] * slots
    refine ⟨(by decide), fun l hl => ⟨_, rfl, l, _, _, rfl, rfl, upd_same, (by omega), (by omega), ?_, fun rw' hrw => ?_⟩⟩
    · show 1 * (n : Int).toNat ≤ sizeLine
      exact Nat.le_trans (by omega) (by decide : 60 ≤ sizeLine)
    have erep : (List.replicate (n : Int).toNat [V.bl false]).flatten = (List.replicate n false).map V.bl := by
      rw [Int.toNat_natCast, List.flatten_replicate_singleton, List.map_replicate]
    rw [erep]
    -- kept = []
    refine ⟨(by decide), fun kp hkp => ?_⟩
    have nlr : rw' ≠ l := fun e => by rw [e, upd_same] at hrw; cases hrw
    have hr3 : H3 rw' = none := by rw [upd_ne nlr] at hrw; exact hrw
    have nkr : kp ≠ rw' := fun e => by rw [e, upd_same] at hkp; cases hkp
    have nkl : kp ≠ l := fun e => by rw [e, upd_ne nlr.symm, upd_same] at hkp; cases hkp
    have hk3 : H3 kp = none := by rw [upd_ne nkr, upd_ne nkl] at hkp; exact hkp
    generalize hH4 : upd (upd (upd H3 l (.lst [.bl false])) rw' (.lst ((List.replicate n false).map V.bl))) kp (.lst []) = H4
    have s4 : Same H3 H4 := fun b o e => by
      rw [← hH4, upd_ne (ne_of_none e hk3), upd_ne (ne_of_none e hr3), upd_ne (ne_of_none e hl)]
      exact e
    have W4 : Wk K A H' H4 p t p2 t2 rw' kp ⟨pg, sz, List.replicate n false⟩ ⟨pg, sz, (List.replicate n false).set 0 true⟩ := by
      refine ⟨fun b o e => s4 _ _ (s3 _ _ e), S13.keep fun b o e _ => s4 _ _ e, S3.keep fun b o e _ => s4 _ _ e, ?_, ⟨[], by rw [← hH4, upd_same], .inl rfl⟩, ⟨np, ht0, s3.free hr3, s3.free hk3⟩, ?_⟩
      · rw [← hH4, upd_ne nkr.symm, upd_same]
      · exact ⟨(ne_of_none S13.tk hr3).symm, (ne_of_none S13.tk hk3).symm, nkr, np2p, nt2t, ne_of_none S3.tk hr3, ne_of_none S3.tk hk3⟩
    -- for cell in script[3:]
    refine ⟨_, rfl, _, rfl, a, _, rfl, W4.sm.seq hS, fun sl hsl => ?_⟩
    generalize hH5 : upd H4 sl _ = H5
    have s5 : Same H4 H5 := fun b o e => by
      rw [← hH5, upd_ne (ne_of_none e hsl)]
      exact e
    have hsl5 : H5 sl = some (.lst (cutV (ns.map V.int) (some 3) none)) := by rw [← hH5]; exact upd_same
    have W5 : Wk K A H' H5 p t p2 t2 rw' kp ⟨pg, sz, List.replicate n false⟩ ⟨pg, sz, (List.replicate n false).set 0 true⟩ :=
      ⟨fun b o e => s5 _ _ (W4.sm _ _ e), W4.sh.keep fun b o e _ => s5 _ _ e, W4.ot.keep fun b o e _ => s5 _ _ e, s5 _ _ W4.row, W4.kept.keep fun b o e _ => s5 _ _ e, W4.fresh, W4.dis⟩
    have nsl : sl ∉ [p, t, p2, t2, rw', kp] := notin_fresh W4.all hsl
    simp only [List.mem_cons, List.mem_nil_iff, or_false, not_or] at nsl
    refine ⟨sl, rfl, ⟨_, SqL.of hsl5⟩, for_list (K := K) (a := sl) (xs := cutV (ns.map V.int) (some 3) none) (fun i σ H6 => ∃ tk v, σ = [some (.ref a), some (.int pg), some (.int sz), some (.int n), some (.ref p), some (.ref p2), some (.ref rw'), some (.ref kp), v] ∧
      tk.length = n ∧ H6 sl = some (.lst (cutV (ns.map V.int) (some 3) none)) ∧ Wk K A H' H6 p t p2 t2 rw' kp ⟨pg, sz, tk⟩ ⟨pg, sz, (List.replicate n false).set 0 true⟩)
      ⟨List.replicate n false, _, rfl, by simp, hsl5, W5⟩ (fun i σ H6 _ ⟨_, _, _, _, h, _⟩ => SqL.of h) ?_ ?_⟩
    · rintro i x σ H6 hx ⟨tk, v, rfl, hn, hs6, W6⟩
      obtain ⟨z, rfl⟩ := cut_int hx
      refine ⟨_, rfl, _, rfl, _, rfl, p, t, rw', _, z, rfl, W6.sh, W6.row, W6.dis.1, (by show tk.length ≤ 1000; omega), fun tk' H7 hl7 S7 R7 b7 => ?_⟩
      have W7 := W6.done S7 R7 b7
      have hs7 := b7 _ _ hs6 nsl.1 nsl.2.1 nsl.2.2.2.2.1
      refine ⟨_, rfl, iteF ⟨_, rfl, _, rfl, _, rfl, p, t, rw', kp, _, _, rfl, W7.sh, W7.row, W7.kept, ?_, (by simp), W7.dis.2.1, W7.dis.2.2.1, W7.all, fun H8 k8 b8 => ⟨_, rfl, iteF ?_⟩⟩⟩
      · show tk'.length ≤ 1000
        have : tk'.length = tk.length := hl7
        omega
      · exact ⟨tk', _, rfl, hl7.trans hn, b8 _ _ hs7 nsl.2.2.2.2.2, W7.stood k8 b8⟩
    rintro σ H6 ⟨tk, v, rfl, hn, hs6, W6⟩
    refine ⟨_, rfl, W6.sh.fPage T ?_⟩
    refine ⟨.int pg, "int", rfl, tInt, (by decide), _, rfl, iteF ?_⟩
    refine ⟨_, rfl, W6.sh.fPage T ?_⟩
    refine ⟨_, rfl, rfl, _, rfl, ?_⟩
    refine iteND (fun h => absurd rfl h) (fun _ => ?_)
    refine ⟨_, rfl, W6.sh.fSize T ?_⟩
    refine ⟨_, rfl, rfl, _, rfl, ?_⟩
    refine iteND (fun h => absurd rfl h) (fun _ => ?_)
    -- stands(shelf, row, kept)
    refine ⟨_, rfl, _, rfl, _, rfl, p, t, rw', kp, _, _, rfl, W6.sh, W6.row, W6.kept, (by show tk.length ≤ 1000; omega), (by simp), W6.dis.2.1, W6.dis.2.2.1, W6.all, fun H8 k8 b8 => ⟨_, rfl, iteT ?_⟩⟩
    have W8 := W6.stood k8 b8
    -- stands(other, [True] + [False] * (slots - 1), [])
    refine ⟨_, rfl, (by decide), fun l1 hl1 => ⟨(by decide), fun l2 hl2 => ?_⟩⟩
    have n21 : l2 ≠ l1 := fun e => by rw [e, upd_same] at hl2; cases hl2
    have h82 : H8 l2 = none := by rw [upd_ne n21] at hl2; exact hl2
    refine ⟨_, rfl, _, _, rfl, rfl, l2, _, _, rfl, rfl, upd_same, (by omega), (by omega), ?_, fun l3 hl3 => ?_⟩
    · show 1 * ((n : Int) - 1).toNat ≤ sizeLine
      exact Nat.le_trans (by omega) (by decide : 60 ≤ sizeLine)
    have n32 : l3 ≠ l2 := fun e => by rw [e, upd_same] at hl3; cases hl3
    have n31 : l3 ≠ l1 := fun e => by rw [e, upd_ne n21.symm, upd_same] at hl3; cases hl3
    have h83 : H8 l3 = none := by rw [upd_ne n32, upd_ne n31] at hl3; exact hl3
    have erep2 : (List.replicate ((n : Int) - 1).toNat [V.bl false]).flatten = (List.replicate (n - 1) false).map V.bl := by
      rw [show ((n : Int) - 1).toNat = n - 1 by omega, List.flatten_replicate_singleton, List.map_replicate]
    rw [erep2]
    refine ⟨l1, l3, _, _, rfl, rfl, (by rw [upd_ne n31.symm, upd_ne n21.symm]; exact upd_same), upd_same, ?_, fun l4 hl4 => ?_⟩
    · rw [List.length_map, List.length_replicate]
      exact Nat.le_trans (by show 1 + (n - 1) ≤ 60; omega) (by decide : 60 ≤ sizeLine)
    have n43 : l4 ≠ l3 := fun e => by rw [e, upd_same] at hl4; cases hl4
    have n42 : l4 ≠ l2 := fun e => by rw [e, upd_ne n32.symm, upd_same] at hl4; cases hl4
    have n41 : l4 ≠ l1 := fun e => by rw [e, upd_ne n31.symm, upd_ne n21.symm, upd_same] at hl4; cases hl4
    have h84 : H8 l4 = none := by rw [upd_ne n43, upd_ne n42, upd_ne n41] at hl4; exact hl4
    refine ⟨(by decide), fun l5 hl5 => ?_⟩
    have n54 : l5 ≠ l4 := fun e => by rw [e, upd_same] at hl5; cases hl5
    generalize hH9 : upd (upd (upd (upd (upd H8 l1 _) l2 _) l3 _) l4 _) l5 _ = H9
    have h4t : l4 ≠ t2 := (ne_of_none W8.ot.tk h84).symm
    have s9 : Same H8 H9 := fun b o e => by
      have q : (upd (upd (upd (upd H8 l1 (.lst [.bl true])) l2 (.lst [.bl false])) l3 (.lst ((List.replicate (n - 1) false).map V.bl))) l4 (.lst ([.bl true] ++ (List.replicate (n - 1) false).map V.bl))) b = some o := by
        rw [upd_ne (ne_of_none e h84), upd_ne (ne_of_none e h83), upd_ne (ne_of_none e h82), upd_ne (ne_of_none e hl1)]
        exact e
      rw [← hH9, upd_ne (ne_of_none q hl5)]
      exact q
    have S9 : ShAt A H9 p2 t2 ⟨pg, sz, (List.replicate n false).set 0 true⟩ := W8.ot.keep fun b o e _ => s9 _ _ e
    have h94 : H9 l4 = some (.lst (((List.replicate n false).set 0 true).map V.bl)) := by
      rw [← hH9, upd_ne n54.symm, upd_same]
      obtain ⟨j, rfl⟩ : ∃ j, n = j + 1 := ⟨n - 1, by omega⟩
      simp [List.replicate_succ]
    have h95 : H9 l5 = some (.lst []) := by rw [← hH9, upd_same]
    have n5t : l5 ≠ t2 := by
      have q : (upd (upd (upd (upd H8 l1 (.lst [.bl true])) l2 (.lst [.bl false])) l3 (.lst ((List.replicate (n - 1) false).map V.bl))) l4 (.lst ([.bl true] ++ (List.replicate (n - 1) false).map V.bl))) t2 = some (.lst (((List.replicate n false).set 0 true).map V.bl)) := by
        rw [upd_ne (ne_of_none W8.ot.tk h84), upd_ne (ne_of_none W8.ot.tk h83), upd_ne (ne_of_none W8.ot.tk h82), upd_ne (ne_of_none W8.ot.tk hl1)]
        exact W8.ot.tk
      exact (ne_of_none q hl5).symm
    refine ⟨p2, t2, l4, l5, _, [l5], rfl, S9, h94, ⟨[], h95, .inl rfl⟩, (by show ((List.replicate n false).set 0 true).length ≤ 1000; simp; omega), (by simp), n5t, n54, ?_, fun H10 _ _ => k _⟩
    intro b hb
    rw [List.mem_singleton.mp hb]
    exact ⟨_, h95⟩
end
end Sb
set_option maxHeartbeats 0
namespace Sb
open PySem PySem.W PySem.Calls PySem.Spec PyProof.Rows L2
def dd_Shelf_init : He.DefD := ⟨("Shelf", some "__init__"), "__init__", "Shelf.__init__", defArgs s_Shelf_init, defBody s_Shelf_init, defScope s_Shelf_init, [], []⟩
def dd_Shelf_out : He.DefD := ⟨("Shelf", some "out"), "out", "Shelf.out", defArgs s_Shelf_out, defBody s_Shelf_out, defScope s_Shelf_out, [], []⟩
def dd_Shelf_free : He.DefD := ⟨("Shelf", some "free"), "free", "Shelf.free", defArgs s_Shelf_free, defBody s_Shelf_free, defScope s_Shelf_free, [], []⟩
def dd_Shelf_is_out : He.DefD := ⟨("Shelf", some "is_out"), "is_out", "Shelf.is_out", defArgs s_Shelf_is_out, defBody s_Shelf_is_out, defScope s_Shelf_is_out, [], []⟩
def dd_Shelf_take : He.DefD := ⟨("Shelf", some "take"), "take", "Shelf.take", defArgs s_Shelf_take, defBody s_Shelf_take, defScope s_Shelf_take, [], []⟩
def dd_Shelf_give : He.DefD := ⟨("Shelf", some "give"), "give", "Shelf.give", defArgs s_Shelf_give, defBody s_Shelf_give, defScope s_Shelf_give, [], []⟩
def dd_law_cell_at : He.DefD := ⟨("_law_cell_at", none), "_law_cell_at", "_law_cell_at", defArgs s_law_cell_at, defBody s_law_cell_at, defScope s_law_cell_at, [], []⟩
def dd_law_whole : He.DefD := ⟨("_law_whole", none), "_law_whole", "_law_whole", defArgs s_law_whole, defBody s_law_whole, defScope s_law_whole, [], []⟩
def dd_law_taken : He.DefD := ⟨("_law_taken", none), "_law_taken", "_law_taken", defArgs s_law_taken, defBody s_law_taken, defScope s_law_taken, [], []⟩
def dd_law_given : He.DefD := ⟨("_law_given", none), "_law_given", "_law_given", defArgs s_law_given, defBody s_law_given, defScope s_law_given, [], []⟩
def dd_law_deed : He.DefD := ⟨("_law_deed", none), "_law_deed", "_law_deed", defArgs s_law_deed, defBody s_law_deed, defScope s_law_deed, [], []⟩
def dd_law_stands : He.DefD := ⟨("_law_stands", none), "_law_stands", "_law_stands", defArgs s_law_stands, defBody s_law_stands, defScope s_law_stands, [], []⟩
def dd_law : He.DefD := ⟨("law", none), "law", "law", defArgs s_law, defBody s_law, defScope s_law, [], []⟩
def fn : List He.DefD := [dd_Shelf_init, dd_Shelf_out, dd_Shelf_free, dd_Shelf_is_out, dd_Shelf_take, dd_Shelf_give, dd_law_cell_at, dd_law_whole, dd_law_taken, dd_law_given, dd_law_deed, dd_law_stands, dd_law]
def fa : List He.Fa := [.free "ValueError", .free "bool", .free "int", .free "isinstance", .free "len", .free "list", .free "range", .glo "RoomError", .exc "RoomError", .glo "NoRoom", .exc "NoRoom", .glo "NotOut", .exc "NotOut", .exm "NoRoom" "NoRoom" true, .exm "NoRoom" "NotOut" false, .exm "NotOut" "NoRoom" false, .exm "NotOut" "NotOut" true, .cls "Shelf", .glo "Shelf", .noat "Shelf" "page", .noat "Shelf" "size", .noat "Shelf" "taken", .noat "Shelf" "many", .mkr "Shelf", .meth "Shelf" "out", .meth "Shelf" "free", .meth "Shelf" "is_out", .meth "Shelf" "take", .meth "Shelf" "give", .glo "_law_cell_at", .glo "_law_whole", .glo "_law_taken", .glo "_law_given", .glo "_law_deed", .glo "_law_stands", .glo "law"]
theorem facts {K : PySem.W.Frag} {h : Heap} {mg : Str → Option Value} (X : K.In h) (G : h.Ns mainGlobals mg) (c : He.SaysD fa fn K) : Tx K mg ⟨He.ga K "Shelf", He.ga K "RoomError", He.ga K "NoRoom", He.ga K "NotOut"⟩ where
  z_ValueError := He.free_ok X G (c.fact 0 (f := .free "ValueError") rfl)
  z_bool := He.free_ok X G (c.fact 1 (f := .free "bool") rfl)
  z_int := He.free_ok X G (c.fact 2 (f := .free "int") rfl)
  z_isinstance := He.free_ok X G (c.fact 3 (f := .free "isinstance") rfl)
  z_len := He.free_ok X G (c.fact 4 (f := .free "len") rfl)
  z_list := He.free_ok X G (c.fact 5 (f := .free "list") rfl)
  z_range := He.free_ok X G (c.fact 6 (f := .free "range") rfl)
  e_RoomError := (have z := He.exc_ok (c.fact 8 (f := .exc "RoomError") rfl); ⟨He.glo_ok X G (c.fact 7 (f := .glo "RoomError") rfl), z.1, z.2.1, z.2.2.1, z.2.2.2⟩)
  e_NoRoom := (have z := He.exc_ok (c.fact 10 (f := .exc "NoRoom") rfl); ⟨He.glo_ok X G (c.fact 9 (f := .glo "NoRoom") rfl), z.1, z.2.1, z.2.2.1, z.2.2.2⟩)
  e_NotOut := (have z := He.exc_ok (c.fact 12 (f := .exc "NotOut") rfl); ⟨He.glo_ok X G (c.fact 11 (f := .glo "NotOut") rfl), z.1, z.2.1, z.2.2.1, z.2.2.2⟩)
  x_NoRoom_NoRoom := He.exm_ok (c.fact 13 (f := .exm "NoRoom" "NoRoom" true) rfl)
  x_NoRoom_NotOut := He.exm_ok (c.fact 14 (f := .exm "NoRoom" "NotOut" false) rfl)
  x_NotOut_NoRoom := He.exm_ok (c.fact 15 (f := .exm "NotOut" "NoRoom" false) rfl)
  x_NotOut_NotOut := He.exm_ok (c.fact 16 (f := .exm "NotOut" "NotOut" true) rfl)
  c_Shelf := He.cls_ok (c.fact 17 (f := .cls "Shelf") rfl)
  g_Shelf := He.glo_ok X G (c.fact 18 (f := .glo "Shelf") rfl)
  n_Shelf_page := He.noat_ok (c.fact 19 (f := .noat "Shelf" "page") rfl)
  n_Shelf_size := He.noat_ok (c.fact 20 (f := .noat "Shelf" "size") rfl)
  n_Shelf_taken := He.noat_ok (c.fact 21 (f := .noat "Shelf" "taken") rfl)
  n_Shelf_many := He.noat_ok (c.fact 22 (f := .noat "Shelf" "many") rfl)
  d_Shelf_init := (have z := c.def_ 0 (d := dd_Shelf_init) rfl; z.elim fun fd F => ⟨_, fd, He.mkr_ok (c.fact 23 (f := .mkr "Shelf") rfl), F⟩)
  d_Shelf_out := (have z := c.def_ 1 (d := dd_Shelf_out) rfl; z.elim fun fd F => ⟨_, fd, He.meth_ok (c.fact 24 (f := .meth "Shelf" "out") rfl), F⟩)
  d_Shelf_free := (have z := c.def_ 2 (d := dd_Shelf_free) rfl; z.elim fun fd F => ⟨_, fd, He.meth_ok (c.fact 25 (f := .meth "Shelf" "free") rfl), F⟩)
  d_Shelf_is_out := (have z := c.def_ 3 (d := dd_Shelf_is_out) rfl; z.elim fun fd F => ⟨_, fd, He.meth_ok (c.fact 26 (f := .meth "Shelf" "is_out") rfl), F⟩)
  d_Shelf_take := (have z := c.def_ 4 (d := dd_Shelf_take) rfl; z.elim fun fd F => ⟨_, fd, He.meth_ok (c.fact 27 (f := .meth "Shelf" "take") rfl), F⟩)
  d_Shelf_give := (have z := c.def_ 5 (d := dd_Shelf_give) rfl; z.elim fun fd F => ⟨_, fd, He.meth_ok (c.fact 28 (f := .meth "Shelf" "give") rfl), F⟩)
  d_law_cell_at := (have z := c.def_ 6 (d := dd_law_cell_at) rfl; z.elim fun fd F => ⟨_, fd, He.glo_ok X G (c.fact 29 (f := .glo "_law_cell_at") rfl), F⟩)
  d_law_whole := (have z := c.def_ 7 (d := dd_law_whole) rfl; z.elim fun fd F => ⟨_, fd, He.glo_ok X G (c.fact 30 (f := .glo "_law_whole") rfl), F⟩)
  d_law_taken := (have z := c.def_ 8 (d := dd_law_taken) rfl; z.elim fun fd F => ⟨_, fd, He.glo_ok X G (c.fact 31 (f := .glo "_law_taken") rfl), F⟩)
  d_law_given := (have z := c.def_ 9 (d := dd_law_given) rfl; z.elim fun fd F => ⟨_, fd, He.glo_ok X G (c.fact 32 (f := .glo "_law_given") rfl), F⟩)
  d_law_deed := (have z := c.def_ 10 (d := dd_law_deed) rfl; z.elim fun fd F => ⟨_, fd, He.glo_ok X G (c.fact 33 (f := .glo "_law_deed") rfl), F⟩)
  d_law_stands := (have z := c.def_ 11 (d := dd_law_stands) rfl; z.elim fun fd F => ⟨_, fd, He.glo_ok X G (c.fact 34 (f := .glo "_law_stands") rfl), F⟩)
  d_law := (have z := c.def_ 12 (d := dd_law) rfl; z.elim fun fd F => ⟨_, fd, He.glo_ok X G (c.fact 35 (f := .glo "law") rfl), F⟩)
abbrev R : PySem.W.OpenRow := PySem.W.OpenLaw.row PySem.Challenge.rw_slabroom_k03_a_shelf
abbrev hk : PySem.W.Hook := He.hookD 4 fa fn
def ob (s : PySem.W.SharedT) : He.AlD := He.obsDG 4 fa fn (HandSHeadRun.getT s)
theorem ob_eq (s : PySem.W.SharedT) : ob s = hk.obs s.abs := He.obsDG_eq (HandSHeadRun.getT_eq s)
def names : List PySem.Str := (["_wall", "RoomError", "NoRoom", "NotOut", "Shelf", "_law_cell_at", "_law_whole", "_law_taken", "_law_given", "_law_deed", "_law_stands"] : List PySem.Str)
theorem run (w : World) : HandSHeadRun.RunEq R (PySem.W.view R.prog [14]) hk ob 4000 names w := by
  intro os
  kernel_rfl
end Sb
open PySem PySem.W PySem.Calls PyProof.Rows in
set_option maxRecDepth 100000 in
set_option maxHeartbeats 0 in
theorem PySem.Challenge.cw_slabroom_k03_a_shelf_holds : PySem.Challenge.rw_slabroom_k03_a_shelf.Holds := by
  w_on; o_law
  refine HandSHeadRun.head_any (r := OpenLaw.row PySem.Challenge.rw_slabroom_k03_a_shelf) (q := view (OpenLaw.row PySem.Challenge.rw_slabroom_k03_a_shelf).prog [14]) (H := Sb.hk) (ob := Sb.ob) (M := 4000) (loose := Sb.names) (d := HandSHeadRun.topDef (OpenLaw.row PySem.Challenge.rw_slabroom_k03_a_shelf).prog 14) (kwd := []) Sb.ob_eq
    (by kernel_rfl) (fun s => by kernel_rfl) Sb.run (by kernel_rfl) (by kernel_rfl) (by kernel_rfl) (by rfl) (by first | assumption | decide +kernel) (by decide +kernel) ⟨rfl, rfl, rfl, rfl, rfl, by decide +kernel⟩ ?hw ?hc
  case hw => w_witness2
  case hc =>
    refine L2.walk_ofE (l := PySem.Challenge.rw_slabroom_k03_a_shelf) (n := 63) (k := 5) (x := "_law_script") (CX := L2.CX0) rfl (by decide) (by kernel_rfl) ⟨rfl, by decide, by decide⟩ ?F (fun _ _ _ _ z => z)
    intro w mg fa h Y G hmg0
    obtain ⟨K, KX, c⟩ := Y
    have hmg : mg ("law" : PySem.Str) = some (.ref fa) := by
      have e : (HandSHeadRun.topDef (OpenLaw.row PySem.Challenge.rw_slabroom_k03_a_shelf).prog 14).name = ("law" : PySem.Str) := by kernel_rfl
      rw [← e]
      exact hmg0
    have T := Sb.facts KX G c
    obtain ⟨f, fd, g, F⟩ := T.d_law
    have e := hmg.symm.trans g
    cases e
    refine ⟨K, fd, Sb.sp_law K _, KX, fun s u => L2.FunD.bindsA F Sb.bi_law s [u] rfl, fun H a ns hl _ hS => ⟨a, ns, rfl, hS, hl, fun _ => rfl⟩, fun base _ _ => Sb.ok_law T F⟩
#print axioms PySem.Challenge.cw_slabroom_k03_a_shelf_holds
