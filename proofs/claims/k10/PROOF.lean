import PyProof.Rows.All
import Wide.All
import OpenK.AllK
import Wide.FinOn
import HandS.ForMost
import HandS.ForExc
import HandS.Defaults
import HandS.IsInst
import HandS.TryMany
import HandS.ExcIs
import HandS.SetFor
import HandS.Conv
import HandS.SortInts
import HandS.SortRule
import HandS.SortKw
import HandS.Deep
import HandS.More
import HandS.Evl
import HandS.Head0
import HandS.Head1
import HandS.Head2
import HandS.HeadEnd
import HandS.HeadHook1
import HandS.HeadHook2
import HandS.Keys
import HandS.Rev
import HandS.Walk
import HandS.Iter
import PySem.Challenge.RW_slabroom_k10_whole_every_deed
set_option Elab.async false
set_option linter.all false
set_option maxRecDepth 100000
set_option maxHeartbeats 4000000
/-! The prelude of every claim of this seat: defs, methods, classes and errors of the text in one word each. -/
namespace Sb
open PySem PySem.Spec PyProof.Rows L2

abbrev FnP (K : PySem.W.Frag) (x qual : Str) (st : Stmt) (f : Addr) (fd : FuncData) : Prop :=
  L2.FunD K x qual (defArgs st) (defBody st) (defScope st) [] [] f fd
/-- st stands as the module's def x -/
def Dd (K : PySem.W.Frag) (mg : Str → Option Value) (x : Str) (st : Stmt) : Prop :=
  ∃ f fd, mg x = some (.ref f) ∧ FnP K x x st f fd
/-- st stands as the method m of the class at C -/
def Dm (K : PySem.W.Frag) (C : Addr) (m qual : Str) (st : Stmt) : Prop :=
  ∃ f fd, Meth K C m f ∧ FnP K m qual st f fd
/-- st is what makes the instances of the class at C -/
def Di (K : PySem.W.Frag) (C : Addr) (qual : Str) (st : Stmt) : Prop :=
  ∃ f fd, Mk K C f ∧ FnP K "__init__" qual st f fd

section
variable (P : Program) (w : World) (K : PySem.W.Frag) (mg : Str → Option Value) (base : Heap)
/-- the module's def x keeps the promise sp, by at most level k -/
def Df (k : Nat) (x : Str) (ps : List Str) (sp : Sp) : Prop :=
  ∃ f fd, mg x = some (.ref f) ∧ PySem.W.keepIn K (.ref f) = true ∧ FnOk P w K mg base (L2.CX P w) k f fd ps sp ∧ Binds K fd ps []
def Mf (k : Nat) (C : Addr) (m : Str) (ps : List Str) (sp : Sp) : Prop :=
  ∃ f fd, Meth K C m f ∧ FnOk P w K mg base (L2.CX P w) k f fd ps sp ∧ Binds K fd ps []
def If_ (k : Nat) (C : Addr) (ps : List Str) (sp : Sp) : Prop :=
  ∃ f fd, Mk K C f ∧ FnOk P w K mg base (L2.CX P w) k f fd ps sp ∧ Binds K fd ps []
end
/-- how the arguments bind to the parameters -/
def BindOk (ps : List Str) (x qual : Str) (st : Stmt) : Prop :=
  ∀ (kV doc pm : Value) (an : Option Addr) (cdv ct : Value) (us : List Value), us.length = ps.length →
    bindArgs (PySem.W.fnOf x qual (defArgs st) (defBody st) (defScope st) .none kV doc pm an cdv ct) ⟨us, []⟩ = pure (ps.zip us)
/-- what is to be shown of a def's body -/
def BodyOk (P : Program) (w : World) (K : PySem.W.Frag) (mg : Str → Option Value) (base : Heap) (k : Nat) (N : List Str) (qual : Str) (st : Stmt) (sp : Sp) : Prop :=
  ∀ (f : Addr) (cdv : Value) (A : Around) (outer : List Env) (s : Shared) (H : Hp) (vs : List V) (Q : VK) (E : XK),
    Room k (A.deeper (envOfC qual (defScope st) s.heap.objs.size f cdv)) → sp vs H Q E →
      ∃ t, PSs (cxOf (L2.CX P w) P w K mg base N qual (defScope st) f cdv A outer s H E) (defBody st) t ∧ t { nx := fun _ H' => Q .non H', rt := Q } (start N vs) H
section
variable {P : Program} {w : World} {K : PySem.W.Frag} {mg : Str → Option Value} {base : Heap} {x m qual : Str} {st : Stmt} {N ps : List Str} {k : Nat} {sp : Sp} {C : Addr}
theorem Dd.ok (D : Dd K mg x st) (S : FnScope N ps (defScope st)) (b : BindOk ps x x st) (len : ∀ vs H Q E, sp vs H Q E → vs.length = ps.length) (body : BodyOk P w K mg base k N x st sp) : Df P w K mg base (k + 1) x ps sp := by
  obtain ⟨f, fd, g, F⟩ := D
  exact ⟨f, fd, g, F.kp, L2.FunD.ok F S len (body f), L2.FunD.bindsN F b⟩
theorem Dm.ok (D : Dm K C m qual st) (S : FnScope N ps (defScope st)) (b : BindOk ps m qual st) (len : ∀ vs H Q E, sp vs H Q E → vs.length = ps.length) (body : BodyOk P w K mg base k N qual st sp) : Mf P w K mg base (k + 1) C m ps sp := by
  obtain ⟨f, fd, g, F⟩ := D
  exact ⟨f, fd, g, L2.FunD.ok F S len (body f), L2.FunD.bindsN F b⟩
theorem Di.ok (D : Di K C qual st) (S : FnScope N ps (defScope st)) (b : BindOk ps "__init__" qual st) (len : ∀ vs H Q E, sp vs H Q E → vs.length = ps.length) (body : BodyOk P w K mg base k N qual st sp) : If_ P w K mg base (k + 1) C ps sp := by
  obtain ⟨f, fd, g, F⟩ := D
  exact ⟨f, fd, g, L2.FunD.ok F S len (body f), L2.FunD.bindsN F b⟩
end

/-! ### calls -/
section
variable {X : Cx} {k j : Nat} {x m : Str} {ps : List Str} {sp : Sp} {C : Addr} {e o : Expr} {es : List Expr} {t : TA} {ta : TE} {p pos apos : Pos}
/-- f(e, ..), nothing let out -/
theorem pe_df (D : Df X.prog X.w X.K X.mg X.base k x ps sp) (hr : Room j X.A) (hk : k ≤ j) (hg : Gl X x) (ha : PA X (e :: es) t) (hdb : (x == ("__debug__" : Str)) = false := by decide)
    (he : starEach (e :: es) X.env = (false, eval e X.env) :: starEach es X.env := by rfl) (hpl : (backTo pos (starEach es X.env)).any (·.1) = false := by rfl) : PE X (.Call (.Name x p) (e :: es) [] pos) (tCall sp [] E0 t) := by
  obtain ⟨f, fd, g, kp, F, b⟩ := D
  exact pe_call F (hr.mono hk) hg g kp b .nil passL ha hdb he hpl
/-- f(e, ..) that may raise -/
theorem pe_dfS {W : WX} (D : Df X.prog X.w X.K X.mg X.base k x ps sp) (hr : Room j X.A) (hk : k ≤ j) (hg : Gl X x) (tk : Takes X W) (ha : PA X (e :: es) t) (hdb : (x == ("__debug__" : Str)) = false := by decide)
    (he : starEach (e :: es) X.env = (false, eval e X.env) :: starEach es X.env := by rfl) (hpl : (backTo pos (starEach es X.env)).any (·.1) = false := by rfl) : PE X (.Call (.Name x p) (e :: es) [] pos) (tCallS sp (WE W) t) := by
  obtain ⟨f, fd, g, kp, F, b⟩ := D
  exact pe_callS F (hr.mono hk) hg g kp b (fun σ => passAt tk σ) ha hdb he hpl
/-- o.m(e, ..), nothing let out -/
theorem pe_mf {pl : Sem Bool} (D : Mf X.prog X.w X.K X.mg X.base k C m ps sp) (c : Cls X.K C) (hr : Room j X.A) (hk : k ≤ j) (he : PE X o ta) (ha : PA X (e :: es) t)
    (hst : starEach (e :: es) X.env = (false, eval e X.env) :: starEach es X.env := by rfl) (hpl : (backTo pos (starEach es X.env)).any (·.1) = false := by rfl)
    (ht : eval (.Call (.Attribute o m apos) (e :: es) [] pos) X.env = (do let ov ← eval o X.env; standAt apos.atName; let (f, first) ← holding [ov] (getMethod ov m pl); callWith pos f first (backTo pos (starEach (e :: es) X.env)) (backToKw pos (keywordEach [] X.env))) := by rfl) :
    PE X (.Call (.Attribute o m apos) (e :: es) [] pos) (tMeth C m sp [] E0 ta t) := by
  obtain ⟨f, fd, g, F, b⟩ := D
  exact pe_meth he c g F (hr.mono hk) b .nil passL ha hst hpl ht
theorem pe_mf0 {pl : Sem Bool} (D : Mf X.prog X.w X.K X.mg X.base k C m ps sp) (c : Cls X.K C) (hr : Room j X.A) (hk : k ≤ j) (he : PE X o ta)
    (ht : eval (.Call (.Attribute o m apos) [] [] pos) X.env = (do let ov ← eval o X.env; standAt apos.atName; let (f, first) ← holding [ov] (getMethod ov m pl); callWith pos f first (backTo pos (starEach [] X.env)) (backToKw pos (keywordEach [] X.env))) := by rfl) :
    PE X (.Call (.Attribute o m apos) [] [] pos) (tMeth C m sp [] E0 ta tNil) := by
  obtain ⟨f, fd, g, F, b⟩ := D
  exact pe_meth0 he c g F (hr.mono hk) b .nil passL ht
/-- o.m(e, ..) that may raise -/
def tMethE (C : Addr) (m : Str) (sp : Sp) (E : L2.St → XK) (ta : TE) (t : TA) : TE := fun σ H Q =>
  ta σ H fun x H1 => ∃ a dx fs, x = .ref a ∧ H1 a = some (.ins C dx fs) ∧ fs.lookup m = none ∧ t σ H1 fun vs H2 => sp (x :: vs) H2 Q (E σ)
theorem pe_mfS {W : WX} {pl : Sem Bool} (D : Mf X.prog X.w X.K X.mg X.base k C m ps sp) (c : Cls X.K C) (hr : Room j X.A) (hk : k ≤ j) (tk : Takes X W) (he : PE X o ta) (ha : PA X (e :: es) t)
    (hst : starEach (e :: es) X.env = (false, eval e X.env) :: starEach es X.env := by rfl) (hpl : (backTo pos (starEach es X.env)).any (·.1) = false := by rfl)
    (ht : eval (.Call (.Attribute o m apos) (e :: es) [] pos) X.env = (do let ov ← eval o X.env; standAt apos.atName; let (f, first) ← holding [ov] (getMethod ov m pl); callWith pos f first (backTo pos (starEach (e :: es) X.env)) (backToKw pos (keywordEach [] X.env))) := by rfl) :
    PE X (.Call (.Attribute o m apos) (e :: es) [] pos) (tMethE C m sp (WE W) ta t) := by
  obtain ⟨f, fd, g, F, b⟩ := D
  constructor
  intro pins s σ H Q I h
  refine PySem.W.methodCall_KW (pl := pl) (thn (he.run pins s σ H _ I h) ?_) ht
  rintro u s1 ⟨x, H1, I1, rx, a, dx, fs, ex, ea, l, q⟩
  subst ex
  obtain rfl : u = Value.ref a := rx
  apply getmeth_ok I1 ea c g l
  refine PySem.W.callWith_K (first := [.ref a]) (h₀ := X.base) I.ok.mod.kin g.kp ?_ hst hpl
  refine thn (ha.run pos pins s1 σ H1 _ I1 q) ?_
  rintro us s2 ⟨vs, H2, I2, r, q2⟩
  refine ⟨I2.kIn, ?_⟩
  exact run_fnS (us := .ref a :: us) (vs := .ref a :: vs) F (hr.mono hk) b (fun pins H s e s' I c => tk e s' (XE.of_call I (fun _ _ _ h => h) c)) I2 (.cons rfl r) q2
theorem pe_mfS0 {W : WX} {pl : Sem Bool} (D : Mf X.prog X.w X.K X.mg X.base k C m ps sp) (c : Cls X.K C) (hr : Room j X.A) (hk : k ≤ j) (tk : Takes X W) (he : PE X o ta)
    (ht : eval (.Call (.Attribute o m apos) [] [] pos) X.env = (do let ov ← eval o X.env; standAt apos.atName; let (f, first) ← holding [ov] (getMethod ov m pl); callWith pos f first (backTo pos (starEach [] X.env)) (backToKw pos (keywordEach [] X.env))) := by rfl) :
    PE X (.Call (.Attribute o m apos) [] [] pos) (tMethE C m sp (WE W) ta tNil) := by
  obtain ⟨f, fd, g, F, b⟩ := D
  constructor
  intro pins s σ H Q I h
  refine PySem.W.methodCall_KW (pl := pl) (thn (he.run pins s σ H _ I h) ?_) ht
  rintro u s1 ⟨x, H1, I1, rx, a, dx, fs, ex, ea, l, q⟩
  subst ex
  obtain rfl : u = Value.ref a := rx
  apply getmeth_ok I1 ea c g l
  exact PySem.W.callWith_K0 (first := [.ref a]) I1.kIn g.kp (run_fnS (us := [.ref a]) (vs := [.ref a]) F (hr.mono hk) b (fun pins H s e s' I c => tk e s' (XE.of_call I (fun _ _ _ h => h) c)) I1 (.cons rfl .nil) q)
/-- C(e, ..), nothing let out -/
theorem pe_if (D : If_ X.prog X.w X.K X.mg X.base k C ps sp) (hm : X.mg x = some (.ref C)) (hr : Room j X.A) (hk : k + 1 ≤ j) (hg : Gl X x) (ha : PA X (e :: es) t) (hdb : (x == ("__debug__" : Str)) = false := by decide)
    (he : starEach (e :: es) X.env = (false, eval e X.env) :: starEach es X.env := by rfl) (hpl : (backTo pos (starEach es X.env)).any (·.1) = false := by rfl) : PE X (.Call (.Name x p) (e :: es) [] pos) (tMake C sp [] E0 t) := by
  obtain ⟨f, fd, g, F, b⟩ := D
  exact pe_make g F (hr.mono hk) hg hm b .nil passL ha hdb he hpl
end

/-! ### own errors -/
structure Ec (K : PySem.W.Frag) (mg : Str → Option Value) (x : Str) (C : Addr) : Prop where
  g : mg x = some (.ref C)
  x : PySem.W.excIn K C He.veBase "ValueError.__new__" = true
  k : PySem.W.keepIn K (.ref C) = true
  b : PySem.W.subIn K (.ref C) (.type "BaseException") = some true
  t : PySem.W.typeIn K (.ref C) = some (.type "type")
/-- raise X('m') -/
theorem ps_err {X : Cx} {x m : Str} {C : Addr} {j : Nat} {p p2 pos pos' : Pos} {W : WX} (hc : X.calm = true) (T : Ec X.K X.mg x C) (hg : Gl X x) (tk : Takes X W) (hdb : (x == ("__debug__" : Str)) = false := by decide) :
    PS X (.Raise (some (.Call (.Name x p) [.Constant (.str m) j p2] [] pos)) none pos') (fun _ σ H => W (.ref C) none σ H) :=
  ps_raise hc tk (pmk_own PySem.F.excBase_ValueError T.x T.g T.k (raises_own T.b T.t) hg hdb)

/-! ### small words of tests -/
theorem iteD {c : Prop} [Decidable c] {A B : Prop} (h1 : c → A) (h2 : ¬ c → B) : if decide c = true then A else B := by
  by_cases h : c
  · rw [decide_eq_true h]; exact iteT (h1 h)
  · rw [decide_eq_false h]; exact iteF (h2 h)
theorem iteND {c : Prop} [Decidable c] {A B : Prop} (h1 : ¬ c → A) (h2 : c → B) : if (!decide c) = true then A else B := by
  by_cases h : c
  · rw [decide_eq_true h]; exact iteF (h2 h)
  · rw [decide_eq_false h]; exact iteT (h1 h)
theorem iteB {b : Bool} {A B : Prop} (h1 : b = true → A) (h2 : b = false → B) : if b = true then A else B := by
  cases b
  · exact iteF (h2 rfl)
  · exact iteT (h1 rfl)
theorem iteNB {b : Bool} {A B : Prop} (h1 : b = false → A) (h2 : b = true → B) : if (!b) = true then A else B := by
  cases b
  · exact iteT (h1 rfl)
  · exact iteF (h2 rfl)
theorem ixN_at {n j : Nat} (h : j < n) : ixN n (j : Int) = some j := by
  unfold ixN
  rw [if_pos (Int.natCast_nonneg j), if_pos (Int.ofNat_lt.mpr h), Int.toNat_natCast]
/-! ### data -/
structure Shp (d : PyData) (n : Nat) : Prop where
  lay : d.canLay0 = true
  dep : d.depth ≤ n
theorem Shp.int (i : Int) : Shp (.int i) 0 := ⟨rfl, by simp [PyData.depth]⟩
theorem Shp.bool (b : Bool) : Shp (.bool b) 0 := ⟨rfl, by simp [PyData.depth]⟩
theorem canAll : ∀ {ds : List PyData} {n : Nat}, (∀ d ∈ ds, Shp d n) → PyData.canLayAll0 ds = true ∧ PyData.depthAll ds ≤ n
  | [], _, _ => ⟨rfl, by simp [PyData.depthAll]⟩
  | d :: ds, n, h => by
    have h1 := h d List.mem_cons_self
    have h2 := canAll (ds := ds) (n := n) fun x hx => h x (List.mem_cons_of_mem _ hx)
    refine ⟨?_, ?_⟩
    · show (d.canLay0 && PyData.canLayAll0 ds) = true
      rw [h1.lay, h2.1]; rfl
    · simp only [PyData.depthAll]
      have := h1.dep
      have := h2.2
      omega
theorem Shp.list {ds : List PyData} {n : Nat} (h : ∀ d ∈ ds, Shp d n) : Shp (.list ds) (n + 1) := ⟨(canAll h).1, by simp only [PyData.depth]; have := (canAll h).2; omega⟩
theorem Shp.tuple {ds : List PyData} {n : Nat} (h : ∀ d ∈ ds, Shp d n) : Shp (.tuple ds) (n + 1) := ⟨(canAll h).1, by simp only [PyData.depth]; have := (canAll h).2; omega⟩
theorem Shp.shaped {d : PyData} {n : Nat} (h : Shp d n) (hn : n ≤ 64) : SeqAt.shaped d = true := by
  unfold SeqAt.shaped
  rw [h.lay, decide_eq_true (Nat.le_trans h.dep hn)]; rfl
theorem Shp.refl {d : PyData} {n : Nat} (h : Shp d n) : PyData.eqv d d = true := SeqAt.eqv_refl d h.lay
theorem dpAll_map {K : PySem.W.Frag} {H : Hp} {α : Type} (f : α → V) (g : α → PyData) : ∀ {l : List α}, (∀ x ∈ l, Dp K H (f x) (g x)) → DpAll K H (l.map f) (l.map g)
  | [], _ => .nil
  | x :: l, h => .cons (h x List.mem_cons_self) (dpAll_map f g fun y hy => h y (List.mem_cons_of_mem _ hy))
/-- a list of whole numbers as data -/
abbrev dInts (l : List Int) : PyData := .list (l.map .int)
theorem dp_ints {K : PySem.W.Frag} {H : Hp} {a : Addr} {l : List Int} (h : SqL K H a (l.map V.int)) : Dp K H (.ref a) (dInts l) := .lst h (dpAll_map V.int .int fun x _ => .int x)
theorem sh_ints (l : List Int) : Shp (dInts l) 1 := .list fun d hd => by
  obtain ⟨i, _, rfl⟩ := List.mem_map.mp hd
  exact .int i
/-- what is free behind the making of an instance was free ahead of it -/
theorem made_free {H : Hp} {x dx C t : Addr} (nx : H x = none) (nd : H dx = none) (ht : (upd (upd H dx (.own x)) x (.ins C dx [])) t = none) : H t = none := by
  cases q : H t with
  | none => rfl
  | some o =>
    rw [upd_ne (ne_of_none q nx), upd_ne (ne_of_none q nd), q] at ht
    cases ht
/-- a module's whole number -/
theorem pe_kint {X : Cx} {x : Str} {p : Pos} {i : Int} (hg : Gl X x) (hm : ∃ t, X.mg x = some (.int i t)) (hdb : (x == ("__debug__" : Str)) = false := by decide) : PE X (.Name x p) (tC (.int i)) := by
  obtain ⟨t, h⟩ := hm
  exact pe_glob hg h ⟨_, rfl⟩ hdb
/-- C(e, ..) that may raise -/
def tMakeE (C : Addr) (sp : Sp) (E : L2.St → XK) (t : TA) : TE := fun σ H Q => t σ H fun vs H1 =>
  ∀ x dx, H1 x = none → H1 dx = none → dx ≠ x → sp (.ref x :: vs) (upd (upd H1 dx (.own x)) x (.ins C dx [])) (fun v H2 => v = .non ∧ Q (.ref x) H2) (E σ)
theorem pe_ifS {X : Cx} {k j : Nat} {x : Str} {ps : List Str} {sp : Sp} {C : Addr} {e : Expr} {es : List Expr} {t : TA} {p pos : Pos} {W : WX} (D : If_ X.prog X.w X.K X.mg X.base k C ps sp) (hm : X.mg x = some (.ref C)) (hr : Room j X.A) (hk : k + 1 ≤ j) (hg : Gl X x) (tk : Takes X W) (ha : PA X (e :: es) t)
    (hdb : (x == ("__debug__" : Str)) = false := by decide)
    (he : starEach (e :: es) X.env = (false, eval e X.env) :: starEach es X.env := by rfl) (hpl : (backTo pos (starEach es X.env)).any (·.1) = false := by rfl) : PE X (.Call (.Name x p) (e :: es) [] pos) (tMakeE C sp (WE W) t) := by
  obtain ⟨f, fd, M, F, hb⟩ := D
  constructor
  intro pins s σ H Q I h
  refine wpAny_Call_Name_kw (ld_glob I hg hm ?_ hdb)
  refine PySem.W.callWith_K (h₀ := X.base) I.ok.mod.kin M.kp ?_ he hpl
  refine thn (ha.run pos pins s σ H _ I h) ?_
  rintro us s1 ⟨vs, H1, I1, r, q⟩
  refine ⟨I1.kIn, ?_⟩
  let a := s1.heap.objs.size
  have hq := q (a + 1) a (I1.hok.fresh (Nat.le_succ _)) (I1.hok.fresh (Nat.le_refl _)) (Nat.ne_of_lt (Nat.lt_succ_self _))
  have I2 := Inv.made (C := C) I1
  have r2 : Vals (V.ref (a + 1) :: vs) (Value.ref (a + 1) :: us) := .cons rfl r
  have hl : (Value.ref (a + 1) :: us ++ []).length = ps.length := by
    rw [List.append_nil, ← r2.length]
    exact F.len _ _ _ _ hq
  have bd := hb _ (Value.ref (a + 1) :: us) I2.kIn hl
  rw [List.append_nil] at bd
  have run := F.run _ X.stack _ _ ⟨Value.ref (a + 1) :: us, []⟩ _ _ _ (WE W σ) ((hr.mono hk).make C us []) (I2.env0.make C us []) bd r2 hq
  refine wpAny_call (make_map (f := f) I1.kIn M.makes M.init (beq_iff_eq.mp M.fn) (codeAny_mono run ?_))
  rintro (e | fl) s' hq'
  · exact tk e s' (XE.of_call I2 (fun _ _ _ h => h) hq')
  · cases fl with
    | ret u =>
      obtain ⟨v, H', I3, rv, ev, q3⟩ := I2.after hq'
      subst ev
      exact ⟨rv, V.ref (a + 1), H', I3, rfl, q3⟩
    | _ => exact hq'.elim
/-- a field's reading -/
abbrev RFld (K : PySem.W.Frag) (p : Addr) (f : Str) (H : Hp) (Q : V → Prop) : Prop :=
  ∃ a C dx fs v, V.ref p = .ref a ∧ H a = some (.ins C dx fs) ∧ Cls K C ∧ NoAttr K C f ∧ fs.lookup f = some v ∧ Q v
/-! ### the head's facts, and further ones -/
abbrev Fx := List (PySem.W.Frag → Bool)
def obs2 (fa : List He.Fa) (fn : List He.DefD) (fx : Fx) (K : PySem.W.Frag) : He.AlD × Bool := (He.obsD fa fn K, fx.all fun f => f K)
def obs2G (n : Nat) (fa : List He.Fa) (fn : List He.DefD) (fx : Fx) (g : Addr → Option Obj) : He.AlD × Bool := obs2 fa fn fx (He.frG g (He.asD g n))
def hook2 (n : Nat) (fa : List He.Fa) (fn : List He.DefD) (fx : Fx) : PySem.W.Hook where
  α := He.AlD × Bool
  obs s := obs2G n fa fn fx s.heap.get?
  val _ := (He.valD fn, true)
  says _ h := ∃ K : PySem.W.Frag, K.In h ∧ obs2 fa fn fx K = (He.valD fn, true)
  of _ _ e := ⟨_, He.frG_in, e⟩
  keeps _ _ _ := fun ⟨K, hK, c⟩ k => ⟨K, PySem.W.Frag.In.keeps hK k, c⟩
theorem obs2G_eq {n : Nat} {fa : List He.Fa} {fn : List He.DefD} {fx : Fx} {g : Addr → Option Obj} {s : Shared} (h : ∀ a, g a = s.heap.get? a) : obs2G n fa fn fx g = (hook2 n fa fn fx).obs s := by
  obtain rfl : g = s.heap.get? := funext h
  rfl
theorem fx_at {fx : Fx} {K : PySem.W.Frag} (h : (fx.all fun f => f K) = true) (i : Nat) {f : PySem.W.Frag → Bool} (hf : fx[i]? = some f) : f K = true := List.all_eq_true.mp h f (List.mem_of_getElem? hf)
/-- what isinstance tells of an error of the class x -/
def kitF (x y : Str) (b : Bool) (K : PySem.W.Frag) : Bool := decide (PySem.W.kitOne K (.ref (He.ga K x)) (.ref (He.ga K y)) = some b)
def kitV (x : Str) (y : String) (b : Bool) (K : PySem.W.Frag) : Bool := decide (PySem.W.kitOne K (.ref (He.ga K x)) (.type y) = some b)
def excF (x : Str) (K : PySem.W.Frag) : Bool :=
  (decide (PySem.W.findIn K (.ref (He.ga K x)) "__getattribute__" = some (some (.builtin "BaseException.__getattribute__"))) &&
  decide (PySem.W.findIn K (.ref (He.ga K x)) "__getattr__" = some none) && decide (PySem.W.subIn K (.ref (He.ga K x)) (.type "BaseException") = some true) && PySem.W.hasDictIn K (He.ga K x)) &&
  (decide (PySem.W.findIn K (.ref (He.ga K x)) "__class__" = some (some (.builtin "object.__class__"))) &&
  decide (PySem.W.specialIn K (.builtin "object.__class__") "__get__" = some (some (.builtin "getset_descriptor.__get__"))) &&
  decide (PySem.W.takesIn K (.builtin "object.__class__") = some true) && decide (PySem.W.mroIn K (He.ga K x) (.type "object") = some true))
theorem kitF_ok {x y : Str} {b : Bool} {K : PySem.W.Frag} (h : kitF x y b K = true) : PySem.W.kitOne K (.ref (He.ga K x)) (.ref (He.ga K y)) = some b := of_decide_eq_true h
theorem kitV_ok {x : Str} {y : String} {b : Bool} {K : PySem.W.Frag} (h : kitV x y b K = true) : PySem.W.kitOne K (.ref (He.ga K x)) (.type y) = some b := of_decide_eq_true h
theorem excF_ok {x : Str} {K : PySem.W.Frag} (h : excF x K = true) : ExcC K (He.ga K x) := by
  unfold excF at h
  simp only [Bool.and_eq_true, decide_eq_true_eq] at h
  obtain ⟨⟨⟨⟨h1, h2⟩, h3⟩, h4⟩, ⟨⟨h5, h6⟩, h7⟩, h8⟩ := h
  exact ⟨h1, h2, h3, h4, h5, h6, h7, h8⟩
/-- a suite's reading, for each of the errors that may come -/
theorem pss_ex {X : Cx} {sts : List Stmt} {α : Type} {R : α → Prop} {t : α → TS} (h : ∀ x, R x → PSs X sts (t x)) : PSs X sts (fun D σ H => ∃ x, R x ∧ t x D σ H) := by
  constructor
  rintro pins s σ H D I ⟨x, hx, ht⟩
  exact (h x hx).run pins s σ H D I ht
theorem zc_of {cls : Value} {d : Option Addr} {oe : Obj} {D : Addr} (h : Zc cls d oe) (e1 : cls = .ref D) (e2 : d = none) : Zc (.ref D) none oe := by
  subst e1 e2
  exact h
end Sb
namespace Sb
open PySem PySem.Spec PyProof.Rows L2
def top (i : Nat) : Stmt := PySem.Challenge.pw_slabroom_k10_whole_every_deed.main.body.getD i (.Pass ⟨0, 0, 0, 0⟩)
abbrev s_own_shelves : Stmt := top 10
theorem sc_own_shelves : FnScope ["room", "size", "page"] ["room", "size"] (defScope s_own_shelves) := ⟨rfl, rfl, rfl, by decide +kernel, rfl, by decide +kernel, by decide +kernel⟩
theorem bi_own_shelves : BindOk ["room", "size"] "own_shelves" "own_shelves" s_own_shelves := fun _ _ _ _ _ _ us hl => match us, hl with | [_, _], _ => rfl
abbrev s_rank : Stmt := top 11
theorem sc_rank : FnScope ["shelf"] ["shelf"] (defScope s_rank) := ⟨rfl, rfl, rfl, by decide +kernel, rfl, by decide +kernel, by decide +kernel⟩
theorem bi_rank : BindOk ["shelf"] "rank" "rank" s_rank := fun _ _ _ _ _ _ us hl => match us, hl with | [_], _ => rfl
abbrev s_staying : Stmt := top 12
theorem sc_staying : FnScope ["shelves", "slots", "things", "shelf", "needed"] ["shelves", "slots"] (defScope s_staying) := ⟨rfl, rfl, rfl, by decide +kernel, rfl, by decide +kernel, by decide +kernel⟩
theorem bi_staying : BindOk ["shelves", "slots"] "staying" "staying" s_staying := fun _ _ _ _ _ _ us hl => match us, hl with | [_, _], _ => rfl
abbrev s_moved : Stmt := top 13
theorem sc_moved : FnScope ["room", "shelf", "slot", "pages", "goal", "page", "here", "there", "step"] ["room", "shelf", "slot", "pages"] (defScope s_moved) := ⟨rfl, rfl, rfl, by decide +kernel, rfl, by decide +kernel, by decide +kernel⟩
theorem bi_moved : BindOk ["room", "shelf", "slot", "pages"] "moved" "moved" s_moved := fun _ _ _ _ _ _ us hl => match us, hl with | [_, _, _, _], _ => rfl
abbrev s_gathered : Stmt := top 14
theorem sc_gathered : FnScope ["room", "size", "slots", "shelves", "pages", "leaving", "shelf", "moves", "slot"] ["room", "size", "slots"] (defScope s_gathered) := ⟨rfl, rfl, rfl, by decide +kernel, rfl, by decide +kernel, by decide +kernel⟩
theorem bi_gathered : BindOk ["room", "size", "slots"] "gathered" "gathered" s_gathered := fun _ _ _ _ _ _ us hl => match us, hl with | [_, _, _], _ => rfl
abbrev s_Shelf_init : Stmt := inClass (top 16) 0
theorem sc_Shelf_init : FnScope ["self", "page", "size", "slots"] ["self", "page", "size", "slots"] (defScope s_Shelf_init) := ⟨rfl, rfl, rfl, by decide +kernel, rfl, by decide +kernel, by decide +kernel⟩
theorem bi_Shelf_init : BindOk ["self", "page", "size", "slots"] "__init__" "Shelf.__init__" s_Shelf_init := fun _ _ _ _ _ _ us hl => match us, hl with | [_, _, _, _], _ => rfl
abbrev s_Shelf_out : Stmt := inClass (top 16) 1
theorem sc_Shelf_out : FnScope ["self"] ["self"] (defScope s_Shelf_out) := ⟨rfl, rfl, rfl, by decide +kernel, rfl, by decide +kernel, by decide +kernel⟩
theorem bi_Shelf_out : BindOk ["self"] "out" "Shelf.out" s_Shelf_out := fun _ _ _ _ _ _ us hl => match us, hl with | [_], _ => rfl
abbrev s_Shelf_free : Stmt := inClass (top 16) 2
theorem sc_Shelf_free : FnScope ["self", "slot"] ["self"] (defScope s_Shelf_free) := ⟨rfl, rfl, rfl, by decide +kernel, rfl, by decide +kernel, by decide +kernel⟩
theorem bi_Shelf_free : BindOk ["self"] "free" "Shelf.free" s_Shelf_free := fun _ _ _ _ _ _ us hl => match us, hl with | [_], _ => rfl
abbrev s_Shelf_has_free : Stmt := inClass (top 16) 3
theorem sc_Shelf_has_free : FnScope ["self"] ["self"] (defScope s_Shelf_has_free) := ⟨rfl, rfl, rfl, by decide +kernel, rfl, by decide +kernel, by decide +kernel⟩
theorem bi_Shelf_has_free : BindOk ["self"] "has_free" "Shelf.has_free" s_Shelf_has_free := fun _ _ _ _ _ _ us hl => match us, hl with | [_], _ => rfl
abbrev s_Shelf_is_out : Stmt := inClass (top 16) 4
theorem sc_Shelf_is_out : FnScope ["self", "slot"] ["self", "slot"] (defScope s_Shelf_is_out) := ⟨rfl, rfl, rfl, by decide +kernel, rfl, by decide +kernel, by decide +kernel⟩
theorem bi_Shelf_is_out : BindOk ["self", "slot"] "is_out" "Shelf.is_out" s_Shelf_is_out := fun _ _ _ _ _ _ us hl => match us, hl with | [_, _], _ => rfl
abbrev s_Shelf_take : Stmt := inClass (top 16) 5
theorem sc_Shelf_take : FnScope ["self", "slot"] ["self"] (defScope s_Shelf_take) := ⟨rfl, rfl, rfl, by decide +kernel, rfl, by decide +kernel, by decide +kernel⟩
theorem bi_Shelf_take : BindOk ["self"] "take" "Shelf.take" s_Shelf_take := fun _ _ _ _ _ _ us hl => match us, hl with | [_], _ => rfl
abbrev s_Shelf_give : Stmt := inClass (top 16) 6
theorem sc_Shelf_give : FnScope ["self", "slot"] ["self", "slot"] (defScope s_Shelf_give) := ⟨rfl, rfl, rfl, by decide +kernel, rfl, by decide +kernel, by decide +kernel⟩
theorem bi_Shelf_give : BindOk ["self", "slot"] "give" "Shelf.give" s_Shelf_give := fun _ _ _ _ _ _ us hl => match us, hl with | [_, _], _ => rfl
abbrev s_Room_init : Stmt := inClass (top 18) 0
theorem sc_Room_init : FnScope ["self", "plan"] ["self", "plan"] (defScope s_Room_init) := ⟨rfl, rfl, rfl, by decide +kernel, rfl, by decide +kernel, by decide +kernel⟩
theorem bi_Room_init : BindOk ["self", "plan"] "__init__" "Room.__init__" s_Room_init := fun _ _ _ _ _ _ us hl => match us, hl with | [_, _], _ => rfl
abbrev s_Room_place_of : Stmt := inClass (top 18) 1
theorem sc_Room_place_of : FnScope ["self", "shelf", "slot"] ["self", "shelf", "slot"] (defScope s_Room_place_of) := ⟨rfl, rfl, rfl, by decide +kernel, rfl, by decide +kernel, by decide +kernel⟩
theorem bi_Room_place_of : BindOk ["self", "shelf", "slot"] "place_of" "Room.place_of" s_Room_place_of := fun _ _ _ _ _ _ us hl => match us, hl with | [_, _, _], _ => rfl
abbrev s_Room_empties : Stmt := inClass (top 18) 2
theorem sc_Room_empties : FnScope ["self", "page"] ["self"] (defScope s_Room_empties) := ⟨rfl, rfl, rfl, by decide +kernel, rfl, by decide +kernel, by decide +kernel⟩
theorem bi_Room_empties : BindOk ["self"] "empties" "Room.empties" s_Room_empties := fun _ _ _ _ _ _ us hl => match us, hl with | [_], _ => rfl
abbrev s_Room_give_page : Stmt := inClass (top 18) 3
theorem sc_Room_give_page : FnScope ["self", "page"] ["self", "page"] (defScope s_Room_give_page) := ⟨rfl, rfl, rfl, by decide +kernel, rfl, by decide +kernel, by decide +kernel⟩
theorem bi_Room_give_page : BindOk ["self", "page"] "give_page" "Room.give_page" s_Room_give_page := fun _ _ _ _ _ _ us hl => match us, hl with | [_, _], _ => rfl
abbrev s_Room_fresh_page : Stmt := inClass (top 18) 4
theorem sc_Room_fresh_page : FnScope ["self", "pages", "page"] ["self"] (defScope s_Room_fresh_page) := ⟨rfl, rfl, rfl, by decide +kernel, rfl, by decide +kernel, by decide +kernel⟩
theorem bi_Room_fresh_page : BindOk ["self"] "fresh_page" "Room.fresh_page" s_Room_fresh_page := fun _ _ _ _ _ _ us hl => match us, hl with | [_], _ => rfl
abbrev s_Room_shelf_for : Stmt := inClass (top 18) 5
theorem sc_Room_shelf_for : FnScope ["self", "size", "best", "page", "shelf"] ["self", "size"] (defScope s_Room_shelf_for) := ⟨rfl, rfl, rfl, by decide +kernel, rfl, by decide +kernel, by decide +kernel⟩
theorem bi_Room_shelf_for : BindOk ["self", "size"] "shelf_for" "Room.shelf_for" s_Room_shelf_for := fun _ _ _ _ _ _ us hl => match us, hl with | [_, _], _ => rfl
abbrev s_Room_wish : Stmt := inClass (top 18) 6
theorem sc_Room_wish : FnScope ["self", "places", "size", "shelf", "place", "step"] ["self", "places"] (defScope s_Room_wish) := ⟨rfl, rfl, rfl, by decide +kernel, rfl, by decide +kernel, by decide +kernel⟩
theorem bi_Room_wish : BindOk ["self", "places"] "wish" "Room.wish" s_Room_wish := fun _ _ _ _ _ _ us hl => match us, hl with | [_, _], _ => rfl
abbrev s_Room_found : Stmt := inClass (top 18) 7
theorem sc_Room_found : FnScope ["self", "place", "length", "page", "shelf", "far"] ["self", "place"] (defScope s_Room_found) := ⟨rfl, rfl, rfl, by decide +kernel, rfl, by decide +kernel, by decide +kernel⟩
theorem bi_Room_found : BindOk ["self", "place"] "found" "Room.found" s_Room_found := fun _ _ _ _ _ _ us hl => match us, hl with | [_, _], _ => rfl
abbrev s_Room_give_back : Stmt := inClass (top 18) 8
theorem sc_Room_give_back : FnScope ["self", "place", "pair", "shelf", "others", "page"] ["self", "place"] (defScope s_Room_give_back) := ⟨rfl, rfl, rfl, by decide +kernel, rfl, by decide +kernel, by decide +kernel⟩
theorem bi_Room_give_back : BindOk ["self", "place"] "give_back" "Room.give_back" s_Room_give_back := fun _ _ _ _ _ _ us hl => match us, hl with | [_, _], _ => rfl
abbrev s_Room_trim : Stmt := inClass (top 18) 9
theorem sc_Room_trim : FnScope ["self", "pages", "page"] ["self"] (defScope s_Room_trim) := ⟨rfl, rfl, rfl, by decide +kernel, rfl, by decide +kernel, by decide +kernel⟩
theorem bi_Room_trim : BindOk ["self"] "trim" "Room.trim" s_Room_trim := fun _ _ _ _ _ _ us hl => match us, hl with | [_], _ => rfl
abbrev s_Room_room_for : Stmt := inClass (top 18) 10
theorem sc_Room_room_for : FnScope ["self", "places", "size", "many", "left", "page", "shelf"] ["self", "places"] (defScope s_Room_room_for) := ⟨rfl, rfl, rfl, by decide +kernel, rfl, by decide +kernel, by decide +kernel⟩
theorem bi_Room_room_for : BindOk ["self", "places"] "room_for" "Room.room_for" s_Room_room_for := fun _ _ _ _ _ _ us hl => match us, hl with | [_, _], _ => rfl
abbrev s_Room_cell : Stmt := inClass (top 18) 11
theorem sc_Room_cell : FnScope ["self", "place", "step", "size"] ["self", "place", "step"] (defScope s_Room_cell) := ⟨rfl, rfl, rfl, by decide +kernel, rfl, by decide +kernel, by decide +kernel⟩
theorem bi_Room_cell : BindOk ["self", "place", "step"] "cell" "Room.cell" s_Room_cell := fun _ _ _ _ _ _ us hl => match us, hl with | [_, _, _], _ => rfl
abbrev s_Room_read : Stmt := inClass (top 18) 12
theorem sc_Room_read : FnScope ["self", "place", "step"] ["self", "place", "step"] (defScope s_Room_read) := ⟨rfl, rfl, rfl, by decide +kernel, rfl, by decide +kernel, by decide +kernel⟩
theorem bi_Room_read : BindOk ["self", "place", "step"] "read" "Room.read" s_Room_read := fun _ _ _ _ _ _ us hl => match us, hl with | [_, _, _], _ => rfl
abbrev s_Room_write : Stmt := inClass (top 18) 13
theorem sc_Room_write : FnScope ["self", "place", "step", "number"] ["self", "place", "step", "number"] (defScope s_Room_write) := ⟨rfl, rfl, rfl, by decide +kernel, rfl, by decide +kernel, by decide +kernel⟩
theorem bi_Room_write : BindOk ["self", "place", "step", "number"] "write" "Room.write" s_Room_write := fun _ _ _ _ _ _ us hl => match us, hl with | [_, _, _, _], _ => rfl
abbrev s_Room_gather : Stmt := inClass (top 18) 14
theorem sc_Room_gather : FnScope ["self", "size"] ["self", "size"] (defScope s_Room_gather) := ⟨rfl, rfl, rfl, by decide +kernel, rfl, by decide +kernel, by decide +kernel⟩
theorem bi_Room_gather : BindOk ["self", "size"] "gather" "Room.gather" s_Room_gather := fun _ _ _ _ _ _ us hl => match us, hl with | [_, _], _ => rfl
abbrev s_Room_things : Stmt := inClass (top 18) 15
theorem sc_Room_things : FnScope ["self", "found", "page", "shelf", "slot"] ["self"] (defScope s_Room_things) := ⟨rfl, rfl, rfl, by decide +kernel, rfl, by decide +kernel, by decide +kernel⟩
theorem bi_Room_things : BindOk ["self"] "things" "Room.things" s_Room_things := fun _ _ _ _ _ _ us hl => match us, hl with | [_], _ => rfl
abbrev s_Room_shelves : Stmt := inClass (top 18) 16
theorem sc_Room_shelves : FnScope ["self", "page"] ["self"] (defScope s_Room_shelves) := ⟨rfl, rfl, rfl, by decide +kernel, rfl, by decide +kernel, by decide +kernel⟩
theorem bi_Room_shelves : BindOk ["self"] "shelves" "Room.shelves" s_Room_shelves := fun _ _ _ _ _ _ us hl => match us, hl with | [_], _ => rfl
abbrev s_Room_pile : Stmt := inClass (top 18) 17
theorem sc_Room_pile : FnScope ["self"] ["self"] (defScope s_Room_pile) := ⟨rfl, rfl, rfl, by decide +kernel, rfl, by decide +kernel, by decide +kernel⟩
theorem bi_Room_pile : BindOk ["self"] "pile" "Room.pile" s_Room_pile := fun _ _ _ _ _ _ us hl => match us, hl with | [_], _ => rfl
abbrev s_is_whole : Stmt := top 23
theorem sc_is_whole : FnScope ["thing", "least", "most"] ["thing", "least", "most"] (defScope s_is_whole) := ⟨rfl, rfl, rfl, by decide +kernel, rfl, by decide +kernel, by decide +kernel⟩
theorem bi_is_whole : BindOk ["thing", "least", "most"] "is_whole" "is_whole" s_is_whole := fun _ _ _ _ _ _ us hl => match us, hl with | [_, _, _], _ => rfl
abbrev s_Plan_init : Stmt := inClass (top 24) 0
theorem sc_Plan_init : FnScope ["self", "pages", "length", "sizes", "before", "size"] ["self", "pages", "length", "sizes"] (defScope s_Plan_init) := ⟨rfl, rfl, rfl, by decide +kernel, rfl, by decide +kernel, by decide +kernel⟩
theorem bi_Plan_init : BindOk ["self", "pages", "length", "sizes"] "__init__" "Plan.__init__" s_Plan_init := fun _ _ _ _ _ _ us hl => match us, hl with | [_, _, _, _], _ => rfl
abbrev s_Plan_size_for : Stmt := inClass (top 24) 1
theorem sc_Plan_size_for : FnScope ["self", "wish", "size"] ["self", "wish"] (defScope s_Plan_size_for) := ⟨rfl, rfl, rfl, by decide +kernel, rfl, by decide +kernel, by decide +kernel⟩
theorem bi_Plan_size_for : BindOk ["self", "wish"] "size_for" "Plan.size_for" s_Plan_size_for := fun _ _ _ _ _ _ us hl => match us, hl with | [_, _], _ => rfl
abbrev s_Plan_per : Stmt := inClass (top 24) 2
theorem sc_Plan_per : FnScope ["self", "size"] ["self", "size"] (defScope s_Plan_per) := ⟨rfl, rfl, rfl, by decide +kernel, rfl, by decide +kernel, by decide +kernel⟩
theorem bi_Plan_per : BindOk ["self", "size"] "per" "Plan.per" s_Plan_per := fun _ _ _ _ _ _ us hl => match us, hl with | [_, _], _ => rfl
abbrev s_law_cell_at : Stmt := top 26
theorem sc_law_cell_at : FnScope ["_law_script", "_law_k"] ["_law_script", "_law_k"] (defScope s_law_cell_at) := ⟨rfl, rfl, rfl, by decide +kernel, rfl, by decide +kernel, by decide +kernel⟩
theorem bi_law_cell_at : BindOk ["_law_script", "_law_k"] "_law_cell_at" "_law_cell_at" s_law_cell_at := fun _ _ _ _ _ _ us hl => match us, hl with | [_, _], _ => rfl
abbrev s_law_whole : Stmt := top 27
theorem sc_law_whole : FnScope ["_law_found"] ["_law_found"] (defScope s_law_whole) := ⟨rfl, rfl, rfl, by decide +kernel, rfl, by decide +kernel, by decide +kernel⟩
theorem bi_law_whole : BindOk ["_law_found"] "_law_whole" "_law_whole" s_law_whole := fun _ _ _ _ _ _ us hl => match us, hl with | [_], _ => rfl
abbrev s_law_sizes_by : Stmt := top 28
theorem sc_law_sizes_by : FnScope ["_law_cell", "_law_length", "_law_many", "_law_found", "_law_before", "_law_rest", "_law_span", "_law_turn"] ["_law_cell", "_law_length", "_law_many"] (defScope s_law_sizes_by) := ⟨rfl, rfl, rfl, by decide +kernel, rfl, by decide +kernel, by decide +kernel⟩
theorem bi_law_sizes_by : BindOk ["_law_cell", "_law_length", "_law_many"] "_law_sizes_by" "_law_sizes_by" s_law_sizes_by := fun _ _ _ _ _ _ us hl => match us, hl with | [_, _, _], _ => rfl
abbrev s_law_plan_by : Stmt := top 29
theorem sc_law_plan_by : FnScope ["_law_script", "_law_first", "_law_second", "_law_pages", "_law_length"] ["_law_script"] (defScope s_law_plan_by) := ⟨rfl, rfl, rfl, by decide +kernel, rfl, by decide +kernel, by decide +kernel⟩
theorem bi_law_plan_by : BindOk ["_law_script"] "_law_plan_by" "_law_plan_by" s_law_plan_by := fun _ _ _ _ _ _ us hl => match us, hl with | [_], _ => rfl
abbrev s_law_size_by : Stmt := top 30
theorem sc_law_size_by : FnScope ["_law_sizes", "_law_wish", "_law_size"] ["_law_sizes", "_law_wish"] (defScope s_law_size_by) := ⟨rfl, rfl, rfl, by decide +kernel, rfl, by decide +kernel, by decide +kernel⟩
theorem bi_law_size_by : BindOk ["_law_sizes", "_law_wish"] "_law_size_by" "_law_size_by" s_law_size_by := fun _ _ _ _ _ _ us hl => match us, hl with | [_, _], _ => rfl
abbrev s_law_fullest : Stmt := top 31
theorem sc_law_fullest : FnScope ["_law_model", "_law_size", "_law_best", "_law_page", "_law_row"] ["_law_model", "_law_size"] (defScope s_law_fullest) := ⟨rfl, rfl, rfl, by decide +kernel, rfl, by decide +kernel, by decide +kernel⟩
theorem bi_law_fullest : BindOk ["_law_model", "_law_size"] "_law_fullest" "_law_fullest" s_law_fullest := fun _ _ _ _ _ _ us hl => match us, hl with | [_, _], _ => rfl
abbrev s_law_fresh : Stmt := top 32
theorem sc_law_fresh : FnScope ["_law_model", "_law_pages", "_law_bare", "_law_page", "_law_empty"] ["_law_model", "_law_pages"] (defScope s_law_fresh) := ⟨rfl, rfl, rfl, by decide +kernel, rfl, by decide +kernel, by decide +kernel⟩
theorem bi_law_fresh : BindOk ["_law_model", "_law_pages"] "_law_fresh" "_law_fresh" s_law_fresh := fun _ _ _ _ _ _ us hl => match us, hl with | [_, _], _ => rfl
abbrev s_law_wished : Stmt := top 33
theorem sc_law_wished : FnScope ["_law_model", "_law_drawn", "_law_wish", "_law_size", "_law_page", "_law_slot"] ["_law_model", "_law_drawn", "_law_wish"] (defScope s_law_wished) := ⟨rfl, rfl, rfl, by decide +kernel, rfl, by decide +kernel, by decide +kernel⟩
theorem bi_law_wished : BindOk ["_law_model", "_law_drawn", "_law_wish"] "_law_wished" "_law_wished" s_law_wished := fun _ _ _ _ _ _ us hl => match us, hl with | [_, _, _], _ => rfl
abbrev s_law_places : Stmt := top 34
theorem sc_law_places : FnScope ["_law_model", "_law_length", "_law_found", "_law_page", "_law_row", "_law_slot"] ["_law_model", "_law_length"] (defScope s_law_places) := ⟨rfl, rfl, rfl, by decide +kernel, rfl, by decide +kernel, by decide +kernel⟩
theorem bi_law_places : BindOk ["_law_model", "_law_length"] "_law_places" "_law_places" s_law_places := fun _ _ _ _ _ _ us hl => match us, hl with | [_, _], _ => rfl
abbrev s_law_given : Stmt := top 35
theorem sc_law_given : FnScope ["_law_model", "_law_length", "_law_place", "_law_page", "_law_row", "_law_empty", "_law_one"] ["_law_model", "_law_length", "_law_place"] (defScope s_law_given) := ⟨rfl, rfl, rfl, by decide +kernel, rfl, by decide +kernel, by decide +kernel⟩
theorem bi_law_given : BindOk ["_law_model", "_law_length", "_law_place"] "_law_given" "_law_given" s_law_given := fun _ _ _ _ _ _ us hl => match us, hl with | [_, _, _], _ => rfl
abbrev s_law_gathered_by : Stmt := top 36
theorem sc_law_gathered_by : FnScope ["_law_model", "_law_length", "_law_size", "_law_pages", "_law_page", "_law_slots", "_law_needed", "_law_ranked", "_law_stay", "_law_pair", "_law_moves", "_law_slot", "_law_goal", "_law_one", "_law_there"] ["_law_model", "_law_length", "_law_size"] (defScope s_law_gathered_by) := ⟨rfl, rfl, rfl, by decide +kernel, rfl, by decide +kernel, by decide +kernel⟩
theorem bi_law_gathered_by : BindOk ["_law_model", "_law_length", "_law_size"] "_law_gathered_by" "_law_gathered_by" s_law_gathered_by := fun _ _ _ _ _ _ us hl => match us, hl with | [_, _, _], _ => rfl
abbrev s_law_left : Stmt := top 37
theorem sc_law_left : FnScope ["_law_model", "_law_drawn", "_law_size", "_law_left_here", "_law_page"] ["_law_model", "_law_drawn", "_law_size"] (defScope s_law_left) := ⟨rfl, rfl, rfl, by decide +kernel, rfl, by decide +kernel, by decide +kernel⟩
theorem bi_law_left : BindOk ["_law_model", "_law_drawn", "_law_size"] "_law_left" "_law_left" s_law_left := fun _ _ _ _ _ _ us hl => match us, hl with | [_, _, _], _ => rfl
abbrev s_law_told : Stmt := top 38
theorem sc_law_told : FnScope ["_law_room", "_law_model", "_law_drawn", "_law_wish", "_law_size", "_law_found"] ["_law_room", "_law_model", "_law_drawn", "_law_wish"] (defScope s_law_told) := ⟨rfl, rfl, rfl, by decide +kernel, rfl, by decide +kernel, by decide +kernel⟩
theorem bi_law_told : BindOk ["_law_room", "_law_model", "_law_drawn", "_law_wish"] "_law_told" "_law_told" s_law_told := fun _ _ _ _ _ _ us hl => match us, hl with | [_, _, _, _], _ => rfl
abbrev s_law_got : Stmt := top 39
theorem sc_law_got : FnScope ["_law_room", "_law_wish"] ["_law_room", "_law_wish"] (defScope s_law_got) := ⟨rfl, rfl, rfl, by decide +kernel, rfl, by decide +kernel, by decide +kernel⟩
theorem bi_law_got : BindOk ["_law_room", "_law_wish"] "_law_got" "_law_got" s_law_got := fun _ _ _ _ _ _ us hl => match us, hl with | [_, _], _ => rfl
abbrev s_law_deed : Stmt := top 40
theorem sc_law_deed : FnScope ["_law_room", "_law_model", "_law_drawn", "_law_kept", "_law_cell", "_law_more", "_law_many", "_law_turn", "_law_found", "_law_places_here", "_law_place", "_law_size", "_law_empty", "_law_page"] ["_law_room", "_law_model", "_law_drawn", "_law_kept", "_law_cell"] (defScope s_law_deed) := ⟨rfl, rfl, rfl, by decide +kernel, rfl, by decide +kernel, by decide +kernel⟩
theorem bi_law_deed : BindOk ["_law_room", "_law_model", "_law_drawn", "_law_kept", "_law_cell"] "_law_deed" "_law_deed" s_law_deed := fun _ _ _ _ _ _ us hl => match us, hl with | [_, _, _, _, _], _ => rfl
abbrev s_law_stands : Stmt := top 41
theorem sc_law_stands : FnScope ["_law_room", "_law_model", "_law_drawn", "_law_kept", "_law_one", "_law_copy", "_law_shelves", "_law_page", "_law_pile", "_law_found"] ["_law_room", "_law_model", "_law_drawn", "_law_kept"] (defScope s_law_stands) := ⟨rfl, rfl, rfl, by decide +kernel, rfl, by decide +kernel, by decide +kernel⟩
theorem bi_law_stands : BindOk ["_law_room", "_law_model", "_law_drawn", "_law_kept"] "_law_stands" "_law_stands" s_law_stands := fun _ _ _ _ _ _ us hl => match us, hl with | [_, _, _, _], _ => rfl
abbrev s_law : Stmt := top 42
theorem sc_law : FnScope ["_law_script", "_law_drawn", "_law_plan", "_law_rooms", "_law_models", "_law_kept", "_law_k", "_law_cell", "_law_which", "_law_room", "_law_model"] ["_law_script"] (defScope s_law) := ⟨rfl, rfl, rfl, by decide +kernel, rfl, by decide +kernel, by decide +kernel⟩
theorem bi_law : BindOk ["_law_script"] "law" "law" s_law := fun _ _ _ _ _ _ us hl => match us, hl with | [_], _ => rfl
structure Ad where
  Shelf : Addr
  Room : Addr
  Plan : Addr
  RoomError : Addr
  BadPlan : Addr
  BadWish : Addr
  TooLarge : Addr
  NoSize : Addr
  NoRoom : Addr
  NotOut : Addr
  OutOfThing : Addr
structure Tx (K : PySem.W.Frag) (mg : Str → Option Value) (A : Ad) : Prop where
  z_ValueError : mg "ValueError" = none
  z_bool : mg "bool" = none
  z_enumerate : mg "enumerate" = none
  z_int : mg "int" = none
  z_isinstance : mg "isinstance" = none
  z_len : mg "len" = none
  z_list : mg "list" = none
  z_min : mg "min" = none
  z_range : mg "range" = none
  z_reversed : mg "reversed" = none
  z_sorted : mg "sorted" = none
  z_sum : mg "sum" = none
  k_MOST_PAGES : ∃ t, mg "MOST_PAGES" = some (.int 40 t)
  k_MOST_LENGTH : ∃ t, mg "MOST_LENGTH" = some (.int 60 t)
  k_MOST_SIZES : ∃ t, mg "MOST_SIZES" = some (.int 8 t)
  e_RoomError : Ec K mg "RoomError" A.RoomError
  e_BadPlan : Ec K mg "BadPlan" A.BadPlan
  e_BadWish : Ec K mg "BadWish" A.BadWish
  e_TooLarge : Ec K mg "TooLarge" A.TooLarge
  e_NoSize : Ec K mg "NoSize" A.NoSize
  e_NoRoom : Ec K mg "NoRoom" A.NoRoom
  e_NotOut : Ec K mg "NotOut" A.NotOut
  e_OutOfThing : Ec K mg "OutOfThing" A.OutOfThing
  x_BadPlan_TooLarge : PySem.W.exmOne K (.ref A.BadPlan) (.ref A.TooLarge) = some false
  x_BadPlan_NoRoom : PySem.W.exmOne K (.ref A.BadPlan) (.ref A.NoRoom) = some false
  x_BadWish_TooLarge : PySem.W.exmOne K (.ref A.BadWish) (.ref A.TooLarge) = some false
  x_BadWish_NoRoom : PySem.W.exmOne K (.ref A.BadWish) (.ref A.NoRoom) = some false
  x_TooLarge_TooLarge : PySem.W.exmOne K (.ref A.TooLarge) (.ref A.TooLarge) = some true
  x_TooLarge_NoRoom : PySem.W.exmOne K (.ref A.TooLarge) (.ref A.NoRoom) = some false
  x_NoSize_TooLarge : PySem.W.exmOne K (.ref A.NoSize) (.ref A.TooLarge) = some false
  x_NoSize_NoRoom : PySem.W.exmOne K (.ref A.NoSize) (.ref A.NoRoom) = some false
  x_NoRoom_TooLarge : PySem.W.exmOne K (.ref A.NoRoom) (.ref A.TooLarge) = some false
  x_NoRoom_NoRoom : PySem.W.exmOne K (.ref A.NoRoom) (.ref A.NoRoom) = some true
  x_NotOut_TooLarge : PySem.W.exmOne K (.ref A.NotOut) (.ref A.TooLarge) = some false
  x_NotOut_NoRoom : PySem.W.exmOne K (.ref A.NotOut) (.ref A.NoRoom) = some false
  x_OutOfThing_TooLarge : PySem.W.exmOne K (.ref A.OutOfThing) (.ref A.TooLarge) = some false
  x_OutOfThing_NoRoom : PySem.W.exmOne K (.ref A.OutOfThing) (.ref A.NoRoom) = some false
  c_Shelf : Cls K A.Shelf
  g_Shelf : mg "Shelf" = some (.ref A.Shelf)
  n_Shelf_page : NoAttr K A.Shelf "page"
  n_Shelf_size : NoAttr K A.Shelf "size"
  n_Shelf_taken : NoAttr K A.Shelf "taken"
  n_Shelf_many : NoAttr K A.Shelf "many"
  c_Room : Cls K A.Room
  g_Room : mg "Room" = some (.ref A.Room)
  n_Room_plan : NoAttr K A.Room "plan"
  n_Room_rows : NoAttr K A.Room "rows"
  n_Room_bare : NoAttr K A.Room "bare"
  n_Room_cells : NoAttr K A.Room "cells"
  c_Plan : Cls K A.Plan
  g_Plan : mg "Plan" = some (.ref A.Plan)
  n_Plan_pages : NoAttr K A.Plan "pages"
  n_Plan_length : NoAttr K A.Plan "length"
  n_Plan_sizes : NoAttr K A.Plan "sizes"
  d_own_shelves : Dd K mg "own_shelves" s_own_shelves
  d_rank : Dd K mg "rank" s_rank
  d_staying : Dd K mg "staying" s_staying
  d_moved : Dd K mg "moved" s_moved
  d_gathered : Dd K mg "gathered" s_gathered
  d_Shelf_init : Di K A.Shelf "Shelf.__init__" s_Shelf_init
  d_Shelf_out : Dm K A.Shelf "out" "Shelf.out" s_Shelf_out
  d_Shelf_free : Dm K A.Shelf "free" "Shelf.free" s_Shelf_free
  d_Shelf_has_free : Dm K A.Shelf "has_free" "Shelf.has_free" s_Shelf_has_free
  d_Shelf_is_out : Dm K A.Shelf "is_out" "Shelf.is_out" s_Shelf_is_out
  d_Shelf_take : Dm K A.Shelf "take" "Shelf.take" s_Shelf_take
  d_Shelf_give : Dm K A.Shelf "give" "Shelf.give" s_Shelf_give
  d_Room_init : Di K A.Room "Room.__init__" s_Room_init
  d_Room_place_of : Dm K A.Room "place_of" "Room.place_of" s_Room_place_of
  d_Room_empties : Dm K A.Room "empties" "Room.empties" s_Room_empties
  d_Room_give_page : Dm K A.Room "give_page" "Room.give_page" s_Room_give_page
  d_Room_fresh_page : Dm K A.Room "fresh_page" "Room.fresh_page" s_Room_fresh_page
  d_Room_shelf_for : Dm K A.Room "shelf_for" "Room.shelf_for" s_Room_shelf_for
  d_Room_wish : Dm K A.Room "wish" "Room.wish" s_Room_wish
  d_Room_found : Dm K A.Room "found" "Room.found" s_Room_found
  d_Room_give_back : Dm K A.Room "give_back" "Room.give_back" s_Room_give_back
  d_Room_trim : Dm K A.Room "trim" "Room.trim" s_Room_trim
  d_Room_room_for : Dm K A.Room "room_for" "Room.room_for" s_Room_room_for
  d_Room_cell : Dm K A.Room "cell" "Room.cell" s_Room_cell
  d_Room_read : Dm K A.Room "read" "Room.read" s_Room_read
  d_Room_write : Dm K A.Room "write" "Room.write" s_Room_write
  d_Room_gather : Dm K A.Room "gather" "Room.gather" s_Room_gather
  d_Room_things : Dm K A.Room "things" "Room.things" s_Room_things
  d_Room_shelves : Dm K A.Room "shelves" "Room.shelves" s_Room_shelves
  d_Room_pile : Dm K A.Room "pile" "Room.pile" s_Room_pile
  d_is_whole : Dd K mg "is_whole" s_is_whole
  d_Plan_init : Di K A.Plan "Plan.__init__" s_Plan_init
  d_Plan_size_for : Dm K A.Plan "size_for" "Plan.size_for" s_Plan_size_for
  d_Plan_per : Dm K A.Plan "per" "Plan.per" s_Plan_per
  d_law_cell_at : Dd K mg "_law_cell_at" s_law_cell_at
  d_law_whole : Dd K mg "_law_whole" s_law_whole
  d_law_sizes_by : Dd K mg "_law_sizes_by" s_law_sizes_by
  d_law_plan_by : Dd K mg "_law_plan_by" s_law_plan_by
  d_law_size_by : Dd K mg "_law_size_by" s_law_size_by
  d_law_fullest : Dd K mg "_law_fullest" s_law_fullest
  d_law_fresh : Dd K mg "_law_fresh" s_law_fresh
  d_law_wished : Dd K mg "_law_wished" s_law_wished
  d_law_places : Dd K mg "_law_places" s_law_places
  d_law_given : Dd K mg "_law_given" s_law_given
  d_law_gathered_by : Dd K mg "_law_gathered_by" s_law_gathered_by
  d_law_left : Dd K mg "_law_left" s_law_left
  d_law_told : Dd K mg "_law_told" s_law_told
  d_law_got : Dd K mg "_law_got" s_law_got
  d_law_deed : Dd K mg "_law_deed" s_law_deed
  d_law_stands : Dd K mg "_law_stands" s_law_stands
  d_law : Dd K mg "law" s_law
end Sb
namespace Sb
open PySem PySem.Spec PyProof.Rows L2

/-! ### a shelf's row of slots, in plain Lean -/
/-- the least free slot -/
def ff : List Bool → Option Nat
  | [] => none
  | false :: _ => some 0
  | true :: l => (ff l).map (· + 1)
/-- how many are out -/
abbrev cnt (l : List Bool) : Nat := l.count true
/-- the free ones, rising -/
def frs_ (l : List Bool) : List Nat := (List.range l.length).filter fun i => !(l.getD i true)
theorem ff_none {l : List Bool} (h : ∀ i, i < l.length → l[i]? = some true) : ff l = none := by
  induction l with
  | nil => rfl
  | cons b l ih =>
    have h0 := h 0 (by simp)
    simp at h0
    subst h0
    have := ih fun i hi => by have := h (i + 1) (by simpa using hi); simpa using this
    simp [ff, this]
theorem ff_some {l : List Bool} {j : Nat} (h : ∀ i, i < j → l[i]? = some true) (hj : l[j]? = some false) : ff l = some j := by
  induction l generalizing j with
  | nil => simp at hj
  | cons b l ih =>
    cases j with
    | zero => simp at hj; subst hj; rfl
    | succ j =>
      have h0 := h 0 (by omega)
      simp at h0
      subst h0
      have := ih (j := j) (fun i hi => by have := h (i + 1) (by omega); simpa using this) (by simpa using hj)
      simp [ff, this]
theorem ff_at {l : List Bool} {j : Nat} (h : ff l = some j) : l[j]? = some false := by
  induction l generalizing j with
  | nil => simp [ff] at h
  | cons b l ih =>
    cases b with
    | false => simp [ff] at h; subst h; rfl
    | true =>
      simp only [ff] at h
      cases e : ff l with
      | none => rw [e] at h; simp at h
      | some i => rw [e] at h; simp at h; subst h; simpa using ih e
theorem cnt_set_true {l : List Bool} {j : Nat} (h : l[j]? = some false) : cnt (l.set j true) = cnt l + 1 := by
  induction l generalizing j with
  | nil => simp at h
  | cons b l ih =>
    cases j with
    | zero => simp at h; subst h; simp [cnt]
    | succ j => have := ih (j := j) (by simpa using h); simp [cnt, List.count_cons] at this ⊢; omega
theorem cnt_set_false {l : List Bool} {j : Nat} (h : l[j]? = some true) : cnt (l.set j false) + 1 = cnt l := by
  induction l generalizing j with
  | nil => simp at h
  | cons b l ih =>
    cases j with
    | zero => simp at h; subst h; simp [cnt]
    | succ j => have := ih (j := j) (by simpa using h); simp [cnt, List.count_cons] at this ⊢; omega
theorem cnt_le (l : List Bool) : cnt l ≤ l.length := List.count_le_length

/-! ### a shelf in the heap -/
structure ShM where
  page : Int
  size : Int
  tk : List Bool
def shF (s : ShM) (t : Addr) (n : Int) : List (Str × V) := [("page", .int s.page), ("size", .int s.size), ("taken", .ref t), ("many", .int n)]
structure ShAt (A : Ad) (H : Hp) (p t : Addr) (s : ShM) : Prop where
  ob : ∃ dx, H p = some (.ins A.Shelf dx (shF s t (cnt s.tk)))
  tk : H t = some (.lst (s.tk.map V.bl))
theorem shF_page (s : ShM) (t : Addr) (n : Int) : (shF s t n).lookup ("page" : Str) = some (.int s.page) := by kernel_rfl
theorem shF_size (s : ShM) (t : Addr) (n : Int) : (shF s t n).lookup ("size" : Str) = some (.int s.size) := by kernel_rfl
theorem shF_taken (s : ShM) (t : Addr) (n : Int) : (shF s t n).lookup ("taken" : Str) = some (.ref t) := by kernel_rfl
theorem shF_many (s : ShM) (t : Addr) (n : Int) : (shF s t n).lookup ("many" : Str) = some (.int n) := by kernel_rfl
theorem shF_put (s : ShM) (t : Addr) (n m : Int) : putF ("many" : Str) (.int m) (shF s t n) = shF s t m := by kernel_rfl
theorem shF_new (p z n : Int) (t : Addr) (tk : List Bool) : putF ("many" : Str) (.int n) (putF ("taken" : Str) (.ref t) (putF ("size" : Str) (.int z) (putF ("page" : Str) (.int p) []))) = shF ⟨p, z, tk⟩ t n := by kernel_rfl
theorem shF_no_out (s : ShM) (t : Addr) (n : Int) : (shF s t n).lookup ("out" : Str) = none := by kernel_rfl
theorem shF_no_free (s : ShM) (t : Addr) (n : Int) : (shF s t n).lookup ("free" : Str) = none := by kernel_rfl
theorem shF_no_has_free (s : ShM) (t : Addr) (n : Int) : (shF s t n).lookup ("has_free" : Str) = none := by kernel_rfl
theorem shF_no_is_out (s : ShM) (t : Addr) (n : Int) : (shF s t n).lookup ("is_out" : Str) = none := by kernel_rfl
theorem shF_no_take (s : ShM) (t : Addr) (n : Int) : (shF s t n).lookup ("take" : Str) = none := by kernel_rfl
theorem shF_no_give (s : ShM) (t : Addr) (n : Int) : (shF s t n).lookup ("give" : Str) = none := by kernel_rfl

section
variable {K : PySem.W.Frag} {mg : Str → Option Value} {A : Ad} {H : Hp} {p t : Addr} {m : ShM} {Q : V → Prop}
theorem ShAt.fPage (S : ShAt A H p t m) (T : Tx K mg A) (q : Q (.int m.page)) : RFld K p "page" H Q := by
  obtain ⟨dx, h⟩ := S.ob
  exact ⟨p, _, dx, _, _, rfl, h, T.c_Shelf, T.n_Shelf_page, shF_page _ _ _, q⟩
theorem ShAt.fSize (S : ShAt A H p t m) (T : Tx K mg A) (q : Q (.int m.size)) : RFld K p "size" H Q := by
  obtain ⟨dx, h⟩ := S.ob
  exact ⟨p, _, dx, _, _, rfl, h, T.c_Shelf, T.n_Shelf_size, shF_size _ _ _, q⟩
theorem ShAt.fTaken (S : ShAt A H p t m) (T : Tx K mg A) (q : Q (.ref t)) : RFld K p "taken" H Q := by
  obtain ⟨dx, h⟩ := S.ob
  exact ⟨p, _, dx, _, _, rfl, h, T.c_Shelf, T.n_Shelf_taken, shF_taken _ _ _, q⟩
theorem ShAt.fMany (S : ShAt A H p t m) (T : Tx K mg A) (q : Q (.int (cnt m.tk))) : RFld K p "many" H Q := by
  obtain ⟨dx, h⟩ := S.ob
  exact ⟨p, _, dx, _, _, rfl, h, T.c_Shelf, T.n_Shelf_many, shF_many _ _ _, q⟩
theorem ShAt.ne (S : ShAt A H p t m) : p ≠ t := by
  obtain ⟨dx, h⟩ := S.ob
  exact ne_of h S.tk (by intro z; cases z)
theorem ShAt.keep {H' : Hp} (S : ShAt A H p t m) (k : ∀ b o, H b = some o → b = p ∨ b = t → H' b = some o) : ShAt A H' p t m := by
  obtain ⟨⟨dx, h⟩, h2⟩ := S
  exact ⟨⟨dx, k _ _ h (.inl rfl)⟩, k _ _ h2 (.inr rfl)⟩
end
/-- all that is tracked stays, but at p and t -/
def But2 (p t : Addr) (H H' : Hp) : Prop := ∀ b o, H b = some o → b ≠ p → b ≠ t → H' b = some o

/-! ### the promises -/
def sp_Shelf_init (K : PySem.W.Frag) (A : Ad) : Sp := fun vs H Q _ => ∃ (p dx : Addr) (g z : Int) (n : Nat), vs = [.ref p, .int g, .int z, .int n] ∧ n ≤ 1000 ∧ H p = some (.ins A.Shelf dx []) ∧
  ∀ (t : Addr) (H' : Hp), H t = none → ShAt A H' p t ⟨g, z, List.replicate n false⟩ → (∀ b o, H b = some o → b ≠ p → H' b = some o) → Q .non H'
def sp_Shelf_out (K : PySem.W.Frag) (A : Ad) : Sp := fun vs H Q _ => ∃ (p t : Addr) (m : ShM), vs = [.ref p] ∧ ShAt A H p t m ∧ Q (.int (cnt m.tk)) H
def sp_Shelf_free (K : PySem.W.Frag) (A : Ad) : Sp := fun vs H Q _ => ∃ (p t : Addr) (m : ShM), vs = [.ref p] ∧ ShAt A H p t m ∧ m.tk.length ≤ 1000 ∧
  ∀ q H', H q = none → H' q = some (.lst ((frs_ m.tk).map fun i => V.int (i : Nat))) → Same H H' → Q (.ref q) H'
def sp_Shelf_has_free (K : PySem.W.Frag) (A : Ad) : Sp := fun vs H Q _ => ∃ (p t : Addr) (m : ShM), vs = [.ref p] ∧ ShAt A H p t m ∧ Q (.bl (decide (cnt m.tk < m.tk.length))) H
/-- whether the slot z is out -/
def isOut (l : List Bool) (z : Int) : Bool := decide (0 ≤ z) && l.getD z.toNat false
def sp_Shelf_is_out (K : PySem.W.Frag) (A : Ad) : Sp := fun vs H Q _ => ∃ (p t : Addr) (m : ShM) (z : Int), vs = [.ref p, .int z] ∧ ShAt A H p t m ∧ Q (.bl (isOut m.tk z)) H
def sp_Shelf_take (K : PySem.W.Frag) (A : Ad) : Sp := fun vs H Q E => ∃ (p t : Addr) (m : ShM), vs = [.ref p] ∧ ShAt A H p t m ∧ m.tk.length ≤ 1000 ∧
  (ff m.tk = none → E (.ref A.NoRoom) none H) ∧ ∀ j H', ff m.tk = some j → ShAt A H' p t { m with tk := m.tk.set j true } → But2 p t H H' → Q (.int (j : Nat)) H'
def sp_Shelf_give (K : PySem.W.Frag) (A : Ad) : Sp := fun vs H Q E => ∃ (p t : Addr) (m : ShM) (z : Int), vs = [.ref p, .int z] ∧ ShAt A H p t m ∧ m.tk.length ≤ 1000 ∧
  (isOut m.tk z = false → E (.ref A.NotOut) none H) ∧ ∀ H', isOut m.tk z = true → ShAt A H' p t { m with tk := m.tk.set z.toNat false } → But2 p t H H' → Q .non H'

section
variable {P : Program} {w : World} {K : PySem.W.Frag} {mg : Str → Option Value} {base : Heap} {A : Ad}
theorem ok_Shelf_init (T : Tx K mg A) : If_ P w K mg base 1 A.Shelf ["self", "page", "size", "slots"] (sp_Shelf_init K A) := by
  refine Di.ok T.d_Shelf_init sc_Shelf_init bi_Shelf_init (fun vs H Q E h => ?_) (fun f cdv Ar outer s H vs Q E hr h => ?_)
  · obtain ⟨p, dx, g, z, n, rfl, _⟩ := h; rfl
  · obtain ⟨p, dx, g, z, n, rfl, hn, hp, k⟩ := h
    refine ⟨_, (pss_cons (ps_fld (pv 0) (pv 1) rfl)
    (pss_cons (ps_fld (pv 0) (pv 2) rfl)
    (pss_cons (ps_fld (pv 0) (pe_op op_rep (pe_lst (pa_cons pe_bl pa_nil)) (pv 3)) rfl)
    (pss_one (ps_fld (pv 0) pe_int rfl))))), ?_⟩
    -- self.page, self.size
    refine ⟨_, rfl, _, rfl, p, _, dx, _, rfl, hp, T.c_Shelf, T.n_Shelf_page, (by decide), ?_⟩
    refine ⟨_, rfl, _, rfl, p, _, dx, _, rfl, upd_same, T.c_Shelf, T.n_Shelf_size, (by show 1 < 1000; decide), ?_⟩
    -- [False] * slots
    refine ⟨(by decide), fun l hl => ⟨_, rfl, l, _, _, rfl, rfl, upd_same, (by omega), (by omega), ?_, fun t ht => ?_⟩⟩
    · show 1 * (n : Int).toNat ≤ sizeLine
      exact Nat.le_trans (by omega) (by decide : 1000 ≤ sizeLine)
    have npl : p ≠ l := fun e => by rw [e, upd_same] at hl; cases hl
    have nlt : l ≠ t := fun e => by rw [e, upd_same] at ht; cases ht
    have npt : p ≠ t := fun e => by rw [e, upd_ne (by rw [← e]; exact npl), upd_same] at ht; cases ht
    have ht0 : H t = none := by
      rw [upd_ne nlt.symm, upd_ne npt.symm, upd_ne npt.symm] at ht
      exact ht
    have hl0 : H l = none := by
      rw [upd_ne npl.symm, upd_ne npl.symm] at hl
      exact hl
    refine ⟨_, rfl, p, _, dx, _, rfl, (by rw [upd_ne npt, upd_ne npl]; exact upd_same), T.c_Shelf, T.n_Shelf_taken, (by show 2 < 1000; decide), ?_⟩
    refine ⟨_, rfl, p, _, dx, _, rfl, upd_same, T.c_Shelf, T.n_Shelf_many, (by show 3 < 1000; decide), ?_⟩
    refine k t _ ht0 ⟨⟨dx, ?_⟩, ?_⟩ fun b o e nb => ?_
    · rw [upd_same, shF_new _ _ _ _ (List.replicate n false)]
      have : cnt (List.replicate n false) = 0 := by simp [cnt, List.count_replicate]
      rw [this]; rfl
    · rw [upd_ne npt.symm, upd_ne npt.symm, upd_same]
      congr 2
      show (List.replicate (n : Int).toNat [V.bl false]).flatten = _
      rw [Int.toNat_natCast, List.flatten_replicate_singleton, List.map_replicate]
    · rw [upd_ne nb, upd_ne nb, upd_ne (ne_of_none e ht0), upd_ne (ne_of_none e hl0), upd_ne nb, upd_ne nb]
      exact e
theorem ok_Shelf_out (T : Tx K mg A) : Mf P w K mg base 1 A.Shelf "out" ["self"] (sp_Shelf_out K A) := by
  refine Dm.ok T.d_Shelf_out sc_Shelf_out bi_Shelf_out (fun vs H Q E h => ?_) (fun f cdv Ar outer s H vs Q E hr h => ?_)
  · obtain ⟨p, t, m, rfl, _⟩ := h; rfl
  · obtain ⟨p, t, m, rfl, S, k⟩ := h
    refine ⟨_, (pss_one (ps_ret (pe_fld (pv 0) rfl))), ?_⟩
    exact ⟨_, rfl, S.fMany T k⟩
theorem ok_Shelf_has_free (T : Tx K mg A) : Mf P w K mg base 1 A.Shelf "has_free" ["self"] (sp_Shelf_has_free K A) := by
  refine Dm.ok T.d_Shelf_has_free sc_Shelf_has_free bi_Shelf_has_free (fun vs H Q E h => ?_) (fun f cdv Ar outer s H vs Q E hr h => ?_)
  · obtain ⟨p, t, m, rfl, _⟩ := h; rfl
  · obtain ⟨p, t, m, rfl, S, k⟩ := h
    refine ⟨_, (pss_one (ps_ret (pe_cmpR op_lt (pe_fld (pv 0) rfl) (pe_callB call_len_seq (by rfl) T.z_len (by decide +kernel) (pa_cons (pe_fld (pv 0) rfl) pa_nil)) (nomark _)))), ?_⟩
    refine ⟨_, rfl, S.fMany T ⟨_, rfl, S.fTaken T ⟨t, _, rfl, .inl (SqL.of S.tk), _, _, rfl, rfl, ?_⟩⟩⟩
    have e : decide ((cnt m.tk : Int) < ((m.tk.map V.bl).length : Int)) = decide (cnt m.tk < m.tk.length) := by
      rw [List.length_map]
      exact decide_eq_decide.mpr (by omega)
    show Q (V.bl (decide ((cnt m.tk : Int) < ((m.tk.map V.bl).length : Int)))) H
    rw [e]
    exact k
theorem bl_at {l : List Bool} {i : Nat} {b : Bool} (h : l[i]? = some b) : (l.map V.bl)[i]? = some (.bl b) := by rw [List.getElem?_map, h]; rfl
theorem ok_Shelf_is_out (T : Tx K mg A) : Mf P w K mg base 1 A.Shelf "is_out" ["self", "slot"] (sp_Shelf_is_out K A) := by
  refine Dm.ok T.d_Shelf_is_out sc_Shelf_is_out bi_Shelf_is_out (fun vs H Q E h => ?_) (fun f cdv Ar outer s H vs Q E hr h => ?_)
  · obtain ⟨p, t, m, z, rfl, _⟩ := h; rfl
  · obtain ⟨p, t, m, z, rfl, S, k⟩ := h
    refine ⟨_, (pss_one (ps_ret (pe_and (pe_chain op_le op_lt pe_int (pv 1) (pe_callB call_len_seq (by rfl) T.z_len (by decide +kernel) (pa_cons (pe_fld (pv 0) rfl) pa_nil))) (pe_one (pe_ix ix_list (pe_fld (pv 0) rfl) (pv 1) (fun _ _ => rfl)))))), ?_⟩
    -- 0 <= slot < len(self.taken)
    refine ⟨_, rfl, _, _, rfl, rfl, _, rfl, ?_⟩
    refine iteD (fun h0 => ?_) (fun h0 => ?_)
    · refine ⟨_, rfl, S.fTaken T ⟨t, _, rfl, .inl (SqL.of S.tk), _, _, rfl, rfl, _, rfl, ?_⟩⟩
      refine iteD (fun h1 => ?_) (fun h1 => ?_)
      · have h2 : z.toNat < m.tk.length := by rw [List.length_map] at h1; omega
        obtain ⟨b, hb⟩ : ∃ b, m.tk[z.toNat]? = some b := ⟨_, List.getElem?_eq_getElem h2⟩
        refine ⟨_, rfl, ?_⟩
        refine S.fTaken T ?_
        refine ⟨_, rfl, ?_⟩
        refine ⟨t, _, _, .bl b, rfl, rfl, SqL.of S.tk, at_of (j := z.toNat) (by omega) (bl_at hb), ?_⟩
        have e : isOut m.tk z = b := by
          unfold isOut
          rw [decide_eq_true h0, List.getD_eq_getElem?_getD, hb]; rfl
        rw [e] at k
        exact k
      · have e : isOut m.tk z = false := by
          unfold isOut
          rw [List.length_map] at h1
          rw [List.getD_eq_getElem?_getD, List.getElem?_eq_none (by omega)]
          simp
        rw [e] at k
        exact k
    · refine ⟨_, rfl, iteF ?_⟩
      have e : isOut m.tk z = false := by unfold isOut; rw [decide_eq_false h0]; rfl
      rw [e] at k
      exact k
theorem frs_succ (l : List Bool) (i : Nat) : ((List.range (i + 1)).filter fun k => !(l.getD k true)) = ((List.range i).filter fun k => !(l.getD k true)) ++ (if l.getD i true then [] else [i]) := by
  rw [List.range_succ, List.filter_append]
  congr 1
  cases h : l.getD i true <;> (simp only [List.filter, h]; rfl)
theorem ok_Shelf_free (T : Tx K mg A) : Mf P w K mg base 1 A.Shelf "free" ["self"] (sp_Shelf_free K A) := by
  refine Dm.ok T.d_Shelf_free sc_Shelf_free bi_Shelf_free (fun vs H Q E h => ?_) (fun f cdv Ar outer s H vs Q E hr h => ?_)
  · obtain ⟨p, t, m, rfl, _⟩ := h; rfl
  · obtain ⟨p, t, m, rfl, S, hl, k⟩ := h
    refine ⟨_, (pss_one (ps_ret (pe_lc (own := [("slot", 1)]) (g := gName 1) (tt := (tNot (tB (tOp (rIxL K) (tFld K (tVar 0) "taken") (tVar 1))))) (te := (tVar 1)) rfl sc_Shelf_free.nd (pi_range1 (by rfl) T.z_range (pa_cons (pe_callB call_len_seq (by rfl) T.z_len (by decide +kernel) (pa_cons (pe_fld (pv 0) rfl) pa_nil)) pa_nil)) (blkOk_by (own := [("slot", 1)]) (N := ["self", "slot"]) (sc := defScope s_Shelf_free) (by decide +kernel)) (fun _ _ _ _ _ => pg_name (i := 1) sc_Shelf_free.nd rfl (Or.inl rfl)) (fun _ _ _ _ _ => pts_one (pt_not (pt_val (pe_ix ix_list (pe_fld (pv 0) rfl) (pv 1) (fun _ _ => rfl))))) (fun _ _ _ _ _ => (pv 1))))), ?_⟩
    refine ⟨_, rfl, S.fTaken T ⟨t, _, rfl, .inl (SqL.of S.tk), _, rfl, (by omega), (by rw [List.length_map]; omega), ?_⟩⟩
    intro D hD
    refine lc_range (lo := 0) (n := _) (fun i H' => Same H H' ∧ H' D = some (.lst ((((List.range i).filter fun k => !(m.tk.getD k true))).map fun i => V.int (i : Nat)))) ⟨fun b o e => by rw [upd_ne (ne_of_none e hD)]; exact e, upd_same⟩ ?_ ?_
    · rintro i H' hi ⟨sm, hH⟩
      have hi2 : i < m.tk.length := by simpa using hi
      have S' : ShAt A H' p t m := S.keep fun b o e _ => sm b o e
      obtain ⟨b, hb⟩ : ∃ b, m.tk[i]? = some b := ⟨_, List.getElem?_eq_getElem hi2⟩
      refine ⟨rfl, ?_⟩
      refine ⟨_, rfl, S'.fTaken T ⟨_, rfl, t, _, _, .bl b, rfl, rfl, SqL.of S'.tk, at_of (j := i) (by omega) (bl_at hb), _, rfl, ?_⟩⟩
      have eg : m.tk.getD i true = b := by rw [List.getD_eq_getElem?_getD, hb]; rfl
      refine iteNB (fun h => ?_) (fun h => ?_)
      · subst h
        refine ⟨_, rfl, _, hH, ?_, ?_, ?_⟩
        · rw [List.length_map]
          refine Nat.lt_of_le_of_lt (List.length_filter_le _ _) ?_
          rw [List.length_range]
          exact Nat.lt_of_lt_of_le (Nat.lt_of_lt_of_le hi2 hl) (by decide)
        · intro b o e
          rw [upd_ne (ne_of_none e hD)]
          exact sm b o e
        · rw [upd_same, frs_succ, eg]
          simp
      · subst h
        refine ⟨sm, ?_⟩
        rw [hH, frs_succ, eg]
        simp
    · rintro H' ⟨sm, hH⟩
      refine k D H' hD ?_ sm
      rw [hH]
      simp [frs_]
theorem ok_Shelf_take (T : Tx K mg A) : Mf P w K mg base 1 A.Shelf "take" ["self"] (sp_Shelf_take K A) := by
  refine Dm.ok T.d_Shelf_take sc_Shelf_take bi_Shelf_take (fun vs H Q E h => ?_) (fun f cdv Ar outer s H vs Q E hr h => ?_)
  · obtain ⟨p, t, m, rfl, _⟩ := h; rfl
  · obtain ⟨p, t, m, rfl, S, hl, kN, k⟩ := h
    refine ⟨_, (pss_cons (ps_for (passes_of rfl) rfl (pi_range1 (by rfl) T.z_range (pa_cons (pe_callB call_len_seq (by rfl) T.z_len (by decide +kernel) (pa_cons (pe_fld (pv 0) rfl) pa_nil)) pa_nil)) (pg_name (i := 1) sc_Shelf_take.nd rfl (Or.inl rfl))
    (pss_one (ps_if (pt_not (pt_val (pe_ix ix_list (pe_fld (pv 0) rfl) (pv 1) (fun _ _ => rfl)))) (pss_cons (ps_asg pe_bl (pg_sub (pe_fld (pv 0) rfl) (pv 1) set_list))
    (pss_cons (ps_fld (pv 0) (pe_op op_add (pe_fld (pv 0) rfl) pe_int) rfl)
    (pss_one (ps_ret (pv 1)))))
    pss_nil)))
    (pss_one (ps_err rfl T.e_NoRoom (by rfl) (takes_of rfl rfl rfl rfl)))), ?_⟩
    refine ⟨_, rfl, S.fTaken T ⟨t, _, rfl, .inl (SqL.of S.tk), _, rfl, (by omega), (by rw [List.length_map]; omega), ?_⟩⟩
    refine for_range (lo := 0) (n := _) (fun i σ H' => H' = H ∧ (∀ j, j < i → m.tk[j]? = some true) ∧ ∃ v, σ = [some (.ref p), v]) ⟨rfl, (fun j hj => absurd hj (Nat.not_lt_zero j)), _, rfl⟩ ?_ ?_
    · rintro i σ H' hi ⟨rfl, ht, v, rfl⟩
      have hi2 : i < m.tk.length := by simpa using hi
      obtain ⟨b, hb⟩ : ∃ b, m.tk[i]? = some b := ⟨_, List.getElem?_eq_getElem hi2⟩
      refine ⟨_, rfl, S.fTaken T ⟨_, rfl, t, _, _, .bl b, rfl, rfl, SqL.of S.tk, at_of (j := i) (by omega) (bl_at hb), _, rfl, ?_⟩⟩
      refine iteNB (fun h => ?_) (fun h => ?_)
      · subst h
        have ej : ff m.tk = some i := ff_some ht hb
        obtain ⟨dx, h1⟩ := S.ob
        have npt := S.ne
        -- self.taken[slot] = True
        refine ⟨_, rfl, S.fTaken T ⟨_, rfl, t, _, _, i, rfl, rfl, S.tk, ?_, ?_⟩⟩
        · show ixN (m.tk.map V.bl).length (0 + (i : Int)) = some i
          rw [List.length_map, Int.zero_add]
          exact ixN_at hi2
        -- self.many = self.many + 1
        refine ⟨_, rfl, p, _, dx, _, _, rfl, (by rw [upd_ne npt]; exact h1), T.c_Shelf, T.n_Shelf_many, shF_many _ _ _, _, _, rfl, rfl, ?_⟩
        refine ⟨_, rfl, p, _, dx, _, rfl, (by rw [upd_ne npt]; exact h1), T.c_Shelf, T.n_Shelf_many, (by show 4 < 1000; decide), ?_⟩
        refine ⟨_, rfl, ?_⟩
        have e0 : V.int (0 + (i : Int)) = V.int (i : Nat) := by rw [Int.zero_add]
        show Q (V.int (0 + (i : Int))) _
        rw [e0]
        refine k i _ ej ⟨⟨dx, ?_⟩, ?_⟩ fun b o e n1 n2 => ?_
        · rw [upd_same, shF_put]
          show some (HO.ins A.Shelf dx (shF m t ((cnt m.tk : Int) + 1))) = some (HO.ins A.Shelf dx (shF { m with tk := m.tk.set i true } t (cnt (m.tk.set i true))))
          rw [cnt_set_true hb]
          rfl
        · rw [upd_ne npt.symm, upd_same, List.map_set]
        · rw [upd_ne n1, upd_ne n2]
          exact e
      · subst h
        refine ⟨rfl, fun j hj => ?_, _, rfl⟩
        rcases Nat.lt_succ_iff_lt_or_eq.mp hj with h | h
        · exact ht j h
        · rw [h]; exact hb
    · rintro σ H' ⟨rfl, ht, v, rfl⟩
      refine kN (ff_none fun i hi => ht i ?_)
      simpa using hi
theorem ok_Shelf_give (T : Tx K mg A) : Mf P w K mg base 2 A.Shelf "give" ["self", "slot"] (sp_Shelf_give K A) := by
  refine Dm.ok T.d_Shelf_give sc_Shelf_give bi_Shelf_give (fun vs H Q E h => ?_) (fun f cdv Ar outer s H vs Q E hr h => ?_)
  · obtain ⟨p, t, m, z, rfl, _⟩ := h; rfl
  · obtain ⟨p, t, m, z, rfl, S, hl, kN, k⟩ := h
    refine ⟨_, (pss_cons (ps_if (pt_not (pt_val (pe_mf (ok_Shelf_is_out T) T.c_Shelf hr (by decide) (pv 0) (pa_cons (pv 1) pa_nil)))) (pss_one (ps_err rfl T.e_NotOut (by rfl) (takes_of rfl rfl rfl rfl)))
    pss_nil)
    (pss_cons (ps_asg pe_bl (pg_sub (pe_fld (pv 0) rfl) (pv 1) set_list))
    (pss_one (ps_fld (pv 0) (pe_op op_sub (pe_fld (pv 0) rfl) pe_int) rfl)))), ?_⟩
    obtain ⟨dx, h1⟩ := S.ob
    have npt := S.ne
    refine ⟨_, rfl, p, dx, _, rfl, h1, shF_no_is_out _ _ _, _, rfl, p, t, m, z, rfl, S, _, rfl, ?_⟩
    refine iteNB (fun h => kN h) (fun h => ?_)
    have hz : 0 ≤ z ∧ m.tk[z.toNat]? = some true := by
      unfold isOut at h
      rw [Bool.and_eq_true, decide_eq_true_eq, List.getD_eq_getElem?_getD] at h
      refine ⟨h.1, ?_⟩
      cases e : m.tk[z.toNat]? with
      | none => rw [e] at h; exact absurd h.2 (by decide)
      | some b => rw [e] at h; have h2 := h.2; simp at h2; rw [h2]
    have hz2 : z.toNat < m.tk.length := (List.getElem?_eq_some_iff.mp hz.2).1
    refine ⟨_, rfl, S.fTaken T ⟨_, rfl, t, _, _, z.toNat, rfl, rfl, S.tk, ?_, ?_⟩⟩
    · rw [List.length_map, show z = ((z.toNat : Nat) : Int) by omega]
      exact ixN_at hz2
    refine ⟨_, rfl, p, _, dx, _, _, rfl, (by rw [upd_ne npt]; exact h1), T.c_Shelf, T.n_Shelf_many, shF_many _ _ _, _, _, rfl, rfl, ?_⟩
    refine ⟨_, rfl, p, _, dx, _, rfl, (by rw [upd_ne npt]; exact h1), T.c_Shelf, T.n_Shelf_many, (by show 4 < 1000; decide), ?_⟩
    refine k _ h ⟨⟨dx, ?_⟩, ?_⟩ fun b o e n1 n2 => ?_
    · rw [upd_same, shF_put]
      have q := cnt_set_false hz.2
      show some (HO.ins A.Shelf dx (shF m t ((cnt m.tk : Int) - 1))) = some (HO.ins A.Shelf dx (shF { m with tk := m.tk.set z.toNat false } t (cnt (m.tk.set z.toNat false))))
      rw [show ((cnt m.tk : Int) - 1) = ((cnt (m.tk.set z.toNat false) : Nat) : Int) by omega]
      rfl
    · rw [upd_ne npt.symm, upd_same, List.map_set]
    · rw [upd_ne n1, upd_ne n2]
      exact e
end
end Sb
namespace Sb
open PySem PySem.Spec PyProof.Rows L2
def cellAt (ns : List Int) (k : Nat) : Int := ns.getD k 0
def sp_law_cell_at (K : PySem.W.Frag) (A : Ad) : Sp := fun vs H Q _ => ∃ (a : Addr) (ns : List Int) (k : Nat), vs = [.ref a, .int k] ∧ SqL K H a (ns.map V.int) ∧ Q (.int (cellAt ns k)) H
section
variable {P : Program} {w : World} {K : PySem.W.Frag} {mg : Str → Option Value} {base : Heap} {A : Ad}
theorem ok_law_cell_at (T : Tx K mg A) : Df P w K mg base 1 "_law_cell_at" ["_law_script", "_law_k"] (sp_law_cell_at K A) := by
  refine Dd.ok T.d_law_cell_at sc_law_cell_at bi_law_cell_at (fun vs H Q E h => ?_) (fun f cdv Ar outer s H vs Q E hr h => ?_)
  · obtain ⟨a, ns, k, rfl, _⟩ := h; rfl
  · obtain ⟨a, ns, n, rfl, S, k⟩ := h
    refine ⟨_, (pss_cons (ps_if (pt_cmpR op_lt (pv 1) (pe_callB call_len_seq (by rfl) T.z_len (by decide +kernel) (pa_cons (pv 0) pa_nil)) (nomark _)) (pss_one (ps_ret (pe_ix ix_list (pv 0) (pv 1) (fun _ _ => rfl))))
    pss_nil)
    (pss_one (ps_ret pe_int))), ?_⟩
    refine ⟨_, rfl, _, rfl, a, _, rfl, .inl S, _, _, rfl, rfl, _, rfl, ?_⟩
    refine iteD (fun h => ?_) (fun h => ?_)
    · rw [List.length_map] at h
      have hn : n < ns.length := by omega
      refine ⟨_, rfl, _, rfl, a, _, _, .int (cellAt ns n), rfl, rfl, S, at_of rfl ?_, k⟩
      rw [List.getElem?_map, List.getElem?_eq_getElem hn]
      simp [cellAt, List.getD_eq_getElem?_getD, hn]
    · rw [List.length_map] at h
      have e : cellAt ns n = 0 := by
        unfold cellAt
        rw [List.getD_eq_getElem?_getD, List.getElem?_eq_none (by omega)]; rfl
      rw [e] at k
      exact k
end
end Sb
namespace Sb
open PySem PySem.Spec PyProof.Rows L2
/-! ### what the laws share: a cell of the script, whole numbers -/
/-- the kinds that are asked -/
def kinds : List String := ["int", "bool", "NoneType", "str", "list", "tuple"]
def sp_law_whole (K : PySem.W.Frag) (A : Ad) : Sp := fun vs H Q _ => ∃ (v : V) (T : String), vs = [v] ∧ TyX K H v (.type T) ∧ T ∈ kinds ∧ Q (.bl (decide (T = "int"))) H
theorem tInt {K : PySem.W.Frag} {H : Hp} {i : Int} : TyX K H (.int i) (.type "int") := .base (.int i)
theorem tBl {K : PySem.W.Frag} {H : Hp} {b : Bool} : TyX K H (.bl b) (.type "bool") := .base (.bl b)
theorem tStr {K : PySem.W.Frag} {H : Hp} {x : Str} : TyX K H (.str x) (.type "str") := .base (.str x)
theorem tNon {K : PySem.W.Frag} {H : Hp} : TyX K H .non (.type "NoneType") := .base .non
theorem tLst {K : PySem.W.Frag} {H : Hp} {a : Addr} {xs : List V} (e : H a = some (.lst xs)) : TyX K H (.ref a) (.type "list") := .base (.lst e)
theorem tTup {K : PySem.W.Frag} {H : Hp} {a : Addr} {xs : List V} (e : H a = some (.tup xs)) : TyX K H (.ref a) (.type "tuple") := .base (.tup e)
section
variable {P : Program} {w : World} {K : PySem.W.Frag} {mg : Str → Option Value} {base : Heap} {A : Ad}
theorem ok_law_whole (T : Tx K mg A) : Df P w K mg base 1 "_law_whole" ["_law_found"] (sp_law_whole K A) := by
  refine Dd.ok T.d_law_whole sc_law_whole bi_law_whole (fun vs H Q E h => ?_) (fun f cdv Ar outer s H vs Q E hr h => ?_)
  · obtain ⟨v, Ty, rfl, _⟩ := h; rfl
  · obtain ⟨v, Ty, rfl, ty, hm, k⟩ := h
    refine ⟨_, (pss_one (ps_ret (pe_and (pe_callB call_isi (by rfl) T.z_isinstance (by decide +kernel) (pa_cons (pv 0) (pa_cons (pe_bltn (v := .ty "int") (by rfl) T.z_int (by decide +kernel) rfl) pa_nil))) (pe_one (pe_not (pe_callB call_isi (by rfl) T.z_isinstance (by decide +kernel) (pa_cons (pv 0) (pa_cons (pe_bltn (v := .ty "bool") (by rfl) T.z_bool (by decide +kernel) rfl) pa_nil)))))))), ?_⟩
    refine ⟨_, rfl, ?_⟩
    simp only [kinds, List.mem_cons, List.mem_nil_iff, or_false] at hm
    rcases hm with rfl | rfl | rfl | rfl | rfl | rfl
    · refine ⟨_, _, _, _, true, rfl, .ty _, ty, kit_ty (by decide +kernel), ?_⟩
      refine ⟨_, rfl, iteT ⟨_, rfl, ?_⟩⟩
      refine ⟨_, _, _, _, false, rfl, .ty _, ty, kit_ty (by decide +kernel), ?_⟩
      exact ⟨_, rfl, k⟩
    · refine ⟨_, _, _, _, true, rfl, .ty _, ty, kit_ty (by decide +kernel), ?_⟩
      refine ⟨_, rfl, iteT ⟨_, rfl, ?_⟩⟩
      refine ⟨_, _, _, _, true, rfl, .ty _, ty, kit_ty (by decide +kernel), ?_⟩
      exact ⟨_, rfl, k⟩
    all_goals
      refine ⟨_, _, _, _, false, rfl, .ty _, ty, kit_ty (by decide +kernel), ?_⟩
      exact ⟨_, rfl, iteF k⟩
end
end Sb
namespace Sb
open PySem PySem.Spec PyProof.Rows L2
/-- a value of a kind that is asked for -/
def Kind (K : PySem.W.Frag) (H : Hp) (v : V) : Prop := ∃ T, TyX K H v (.type T) ∧ T ∈ kinds ∧ ((∃ i, v = .int i) ↔ T = "int")
def isWh : V → Int → Int → Bool
  | .int i, l, m => decide (l ≤ i) && decide (i ≤ m)
  | _, _, _ => false
theorem Kind.int {K : PySem.W.Frag} {H : Hp} (i : Int) : Kind K H (.int i) := ⟨_, tInt, by decide, fun _ => rfl, fun _ => ⟨i, rfl⟩⟩
theorem Kind.bl {K : PySem.W.Frag} {H : Hp} (b : Bool) : Kind K H (.bl b) := ⟨_, tBl, by decide, (fun ⟨_, h⟩ => nomatch h), fun h => absurd h (by decide)⟩
theorem Kind.str {K : PySem.W.Frag} {H : Hp} (x : Str) : Kind K H (.str x) := ⟨_, tStr, by decide, (fun ⟨_, h⟩ => nomatch h), fun h => absurd h (by decide)⟩
theorem Kind.non {K : PySem.W.Frag} {H : Hp} : Kind K H .non := ⟨_, tNon, by decide, (fun ⟨_, h⟩ => nomatch h), fun h => absurd h (by decide)⟩
theorem isWh_not {v : V} {l m : Int} (h : ¬ ∃ i, v = .int i) : isWh v l m = false := by
  cases v with
  | int i => exact absurd ⟨i, rfl⟩ h
  | _ => rfl
def sp_is_whole (K : PySem.W.Frag) (A : Ad) : Sp := fun vs H Q _ => ∃ (v : V) (l m : Int), vs = [v, .int l, .int m] ∧ Kind K H v ∧ Q (.bl (isWh v l m)) H
section
variable {P : Program} {w : World} {K : PySem.W.Frag} {mg : Str → Option Value} {base : Heap} {A : Ad}
theorem ok_is_whole (T : Tx K mg A) : Df P w K mg base 1 "is_whole" ["thing", "least", "most"] (sp_is_whole K A) := by
  refine Dd.ok T.d_is_whole sc_is_whole bi_is_whole (fun vs H Q E h => ?_) (fun f cdv Ar outer s H vs Q E hr h => ?_)
  · obtain ⟨v, l, m, rfl, _⟩ := h; rfl
  · obtain ⟨v, l, m, rfl, ⟨Ty, ty, hm, hi⟩, k⟩ := h
    refine ⟨_, (pss_one (ps_ret (pe_and (pe_callB call_isi (by rfl) T.z_isinstance (by decide +kernel) (pa_cons (pv 0) (pa_cons (pe_bltn (v := .ty "int") (by rfl) T.z_int (by decide +kernel) rfl) pa_nil))) (pe_and (pe_not (pe_callB call_isi (by rfl) T.z_isinstance (by decide +kernel) (pa_cons (pv 0) (pa_cons (pe_bltn (v := .ty "bool") (by rfl) T.z_bool (by decide +kernel) rfl) pa_nil)))) (pe_one (pe_chain op_le op_le (pv 1) (pv 0) (pv 2))))))), ?_⟩
    refine ⟨_, rfl, ?_⟩
    simp only [kinds, List.mem_cons, List.mem_nil_iff, or_false] at hm
    rcases hm with rfl | rfl | rfl | rfl | rfl | rfl
    · obtain ⟨i, rfl⟩ := hi.mpr rfl
      refine ⟨_, _, _, _, true, rfl, .ty _, ty, kit_ty (by decide +kernel), ?_⟩
      refine ⟨_, rfl, iteT ⟨_, rfl, ?_⟩⟩
      refine ⟨_, _, _, _, false, rfl, .ty _, ty, kit_ty (by decide +kernel), ?_⟩
      refine ⟨_, rfl, _, rfl, iteT ?_⟩
      refine ⟨_, rfl, _, rfl, _, _, rfl, rfl, _, rfl, ?_⟩
      refine iteD (fun h => ?_) (fun h => ?_)
      · refine ⟨_, rfl, _, _, rfl, rfl, ?_⟩
        have e : isWh (.int i) l m = decide (i ≤ m) := by show (decide (l ≤ i) && decide (i ≤ m)) = _; rw [decide_eq_true h]; rfl
        rw [e] at k
        exact k
      · have e : isWh (.int i) l m = false := by show (decide (l ≤ i) && decide (i ≤ m)) = _; rw [decide_eq_false h]; rfl
        rw [e] at k
        exact k
    · rw [isWh_not fun h => absurd (hi.mp h) (by decide)] at k
      refine ⟨_, _, _, _, true, rfl, .ty _, ty, kit_ty (by decide +kernel), ?_⟩
      refine ⟨_, rfl, iteT ⟨_, rfl, ?_⟩⟩
      refine ⟨_, _, _, _, true, rfl, .ty _, ty, kit_ty (by decide +kernel), ?_⟩
      exact ⟨_, rfl, _, rfl, iteF k⟩
    all_goals
      rw [isWh_not fun h => absurd (hi.mp h) (by decide)] at k
      refine ⟨_, _, _, _, false, rfl, .ty _, ty, kit_ty (by decide +kernel), ?_⟩
      exact ⟨_, rfl, iteF k⟩
end
end Sb
namespace Sb
open PySem PySem.Spec PyProof.Rows L2
/-! ### plans, in plain Lean -/
structure PlM where
  pages : Int
  length : Int
  sizes : List Int
structure PlM.Ok (m : PlM) : Prop where
  p1 : 1 ≤ m.pages
  p2 : m.pages ≤ 40
  l1 : 1 ≤ m.length
  l2 : m.length ≤ 60
  s1 : 1 ≤ m.sizes.length
  s2 : m.sizes.length ≤ 8
  rng : ∀ s ∈ m.sizes, 1 ≤ s ∧ s ≤ m.length
  ris : m.sizes.Pairwise (· < ·)
/-- the least size that does -/
def sizeFor (ss : List Int) (w : Int) : Option Int := ss.find? fun s => decide (w ≤ s)
/-- rising behind a number -/
def rises (l : Int) : Int → List V → Bool
  | _, [] => true
  | b, x :: r => isWh x (b + 1) l && match x with
    | .int i => rises l i r
    | _ => false
/-- what a plan is made of is good: xs none: the sizes are no list -/
def szOk : Option (List V) → V → Bool
  | some xs, .int l => decide (1 ≤ xs.length) && decide (xs.length ≤ 8) && rises l 0 xs
  | _, _ => false
def planOk (v1 v2 : V) (xs : Option (List V)) : Bool := isWh v1 1 40 && isWh v2 1 60 && szOk xs v2
theorem isWh_int {v : V} {l m : Int} (h : isWh v l m = true) : ∃ i, v = .int i ∧ l ≤ i ∧ i ≤ m := by
  cases v with
  | int i =>
    have h' : (decide (l ≤ i) && decide (i ≤ m)) = true := h
    rw [Bool.and_eq_true, decide_eq_true_eq, decide_eq_true_eq] at h'
    exact ⟨i, rfl, h'⟩
  | _ => exact absurd h (by simp [isWh])
theorem rises_ok {l : Int} : ∀ {b : Int} {xs : List V}, rises l b xs = true → ∃ ss : List Int, xs = ss.map V.int ∧ ss.Pairwise (· < ·) ∧ ∀ s ∈ ss, b + 1 ≤ s ∧ s ≤ l
  | _, [], _ => ⟨[], rfl, .nil, fun s hs => nomatch hs⟩
  | b, x :: r, h => by
    unfold rises at h
    rw [Bool.and_eq_true] at h
    obtain ⟨i, rfl, h1, h2⟩ := isWh_int h.1
    obtain ⟨ss, rfl, a1, a2⟩ := rises_ok (b := i) (xs := r) h.2
    refine ⟨i :: ss, rfl, .cons (fun s hs => by have := a2 s hs; omega) a1, fun s hs => ?_⟩
    rcases List.mem_cons.mp hs with rfl | hs
    · exact ⟨h1, h2⟩
    · have := a2 s hs; omega
theorem rises_of {l : Int} : ∀ {b : Int} {ss : List Int}, ss.Pairwise (· < ·) → (∀ s ∈ ss, b + 1 ≤ s ∧ s ≤ l) → rises l b (ss.map V.int) = true
  | _, [], _, _ => rfl
  | b, s :: ss, hp, h => by
    have h0 := h s List.mem_cons_self
    show (isWh (.int s) (b + 1) l && rises l s (ss.map V.int)) = true
    have e1 : isWh (.int s) (b + 1) l = true := by
      show (decide (b + 1 ≤ s) && decide (s ≤ l)) = true
      rw [decide_eq_true h0.1, decide_eq_true h0.2]; rfl
    rw [e1, rises_of (List.pairwise_cons.mp hp).2 fun t ht => ⟨by have := (List.pairwise_cons.mp hp).1 t ht; omega, (h t (List.mem_cons_of_mem _ ht)).2⟩]
    rfl
theorem PlM.Ok.good {m : PlM} (h : m.Ok) : planOk (.int m.pages) (.int m.length) (some (m.sizes.map V.int)) = true := by
  unfold planOk
  have e1 : isWh (.int m.pages) 1 40 = true := by
    show (decide (1 ≤ m.pages) && decide (m.pages ≤ 40)) = true
    rw [decide_eq_true h.p1, decide_eq_true h.p2]; rfl
  have e2 : isWh (.int m.length) 1 60 = true := by
    show (decide (1 ≤ m.length) && decide (m.length ≤ 60)) = true
    rw [decide_eq_true h.l1, decide_eq_true h.l2]; rfl
  rw [e1, e2]
  show (true && true && (decide (1 ≤ (m.sizes.map V.int).length) && decide ((m.sizes.map V.int).length ≤ 8) && rises m.length 0 (m.sizes.map V.int))) = true
  rw [List.length_map, decide_eq_true h.s1, decide_eq_true h.s2, rises_of h.ris fun s hs => by have := h.rng s hs; omega]
  rfl
theorem planOk_ok {v1 v2 : V} {xs : Option (List V)} (h : planOk v1 v2 xs = true) : ∃ m : PlM, m.Ok ∧ v1 = .int m.pages ∧ v2 = .int m.length ∧ xs = some (m.sizes.map V.int) := by
  unfold planOk at h
  rw [Bool.and_eq_true, Bool.and_eq_true] at h
  obtain ⟨⟨h1, h2⟩, h3⟩ := h
  obtain ⟨p, rfl, p1, p2⟩ := isWh_int h1
  obtain ⟨l, rfl, l1, l2⟩ := isWh_int h2
  cases xs with
  | none => cases h3
  | some xs =>
    have h4 : (decide (1 ≤ xs.length) && decide (xs.length ≤ 8) && rises l 0 xs) = true := h3
    rw [Bool.and_eq_true, Bool.and_eq_true, decide_eq_true_eq, decide_eq_true_eq] at h4
    obtain ⟨ss, rfl, a1, a2⟩ := rises_ok h4.2
    rw [List.length_map] at h4
    exact ⟨⟨p, l, ss⟩, ⟨p1, p2, l1, l2, h4.1.1, h4.1.2, fun s hs => by have := a2 s hs; exact ⟨by omega, this.2⟩, a1⟩, rfl, rfl, rfl⟩

/-! ### a plan in the heap -/
def plF (m : PlM) (z : Addr) : List (Str × V) := [("pages", .int m.pages), ("length", .int m.length), ("sizes", .ref z)]
structure PlAt (A : Ad) (H : Hp) (p z : Addr) (m : PlM) : Prop where
  ob : ∃ dx, H p = some (.ins A.Plan dx (plF m z))
  sz : H z = some (.lst (m.sizes.map V.int))
  ok : m.Ok
theorem plF_pages (m : PlM) (z : Addr) : (plF m z).lookup ("pages" : Str) = some (.int m.pages) := by kernel_rfl
theorem plF_length (m : PlM) (z : Addr) : (plF m z).lookup ("length" : Str) = some (.int m.length) := by kernel_rfl
theorem plF_sizes (m : PlM) (z : Addr) : (plF m z).lookup ("sizes" : Str) = some (.ref z) := by kernel_rfl
theorem plF_new (p l : Int) (z : Addr) (ss : List Int) : putF ("sizes" : Str) (.ref z) (putF ("length" : Str) (.int l) (putF ("pages" : Str) (.int p) [])) = plF ⟨p, l, ss⟩ z := by kernel_rfl
theorem plF_no_size_for (m : PlM) (z : Addr) : (plF m z).lookup ("size_for" : Str) = none := by kernel_rfl
theorem plF_no_per (m : PlM) (z : Addr) : (plF m z).lookup ("per" : Str) = none := by kernel_rfl
section
variable {K : PySem.W.Frag} {mg : Str → Option Value} {A : Ad} {H : Hp} {p z : Addr} {m : PlM} {Q : V → Prop}
theorem PlAt.fPages (S : PlAt A H p z m) (T : Tx K mg A) (q : Q (.int m.pages)) : RFld K p "pages" H Q := by
  obtain ⟨dx, h⟩ := S.ob
  exact ⟨p, _, dx, _, _, rfl, h, T.c_Plan, T.n_Plan_pages, plF_pages _ _, q⟩
theorem PlAt.fLength (S : PlAt A H p z m) (T : Tx K mg A) (q : Q (.int m.length)) : RFld K p "length" H Q := by
  obtain ⟨dx, h⟩ := S.ob
  exact ⟨p, _, dx, _, _, rfl, h, T.c_Plan, T.n_Plan_length, plF_length _ _, q⟩
theorem PlAt.fSizes (S : PlAt A H p z m) (T : Tx K mg A) (q : Q (.ref z)) : RFld K p "sizes" H Q := by
  obtain ⟨dx, h⟩ := S.ob
  exact ⟨p, _, dx, _, _, rfl, h, T.c_Plan, T.n_Plan_sizes, plF_sizes _ _, q⟩
theorem PlAt.keep {H' : Hp} (S : PlAt A H p z m) (k : ∀ b o, H b = some o → b = p ∨ b = z → H' b = some o) : PlAt A H' p z m := by
  obtain ⟨⟨dx, h⟩, h2, h3⟩ := S
  exact ⟨⟨dx, k _ _ h (.inl rfl)⟩, k _ _ h2 (.inr rfl), h3⟩
end
/-! ### the promises -/
/-- what is handed in as the sizes: a list of these, or none -/
def SzIs (K : PySem.W.Frag) (H : Hp) (v : V) : Option (List V) → Prop
  | some xs => ∃ z, v = .ref z ∧ H z = some (.lst xs) ∧ xs.length ≤ 100 ∧ ∀ x ∈ xs, Kind K H x
  | none => ∃ T, TyX K H v (.type T) ∧ T ∈ kinds ∧ T ≠ "list"
def sp_Plan_init (K : PySem.W.Frag) (A : Ad) : Sp := fun vs H Q E => ∃ (p dx : Addr) (v1 v2 v3 : V) (xs : Option (List V)), vs = [.ref p, v1, v2, v3] ∧ Kind K H v1 ∧ Kind K H v2 ∧ SzIs K H v3 xs ∧ H p = some (.ins A.Plan dx []) ∧
  (planOk v1 v2 xs = false → E (.ref A.BadPlan) none H) ∧
  ∀ (m : PlM) (z : Addr) (H' : Hp), m.Ok → v1 = .int m.pages → v2 = .int m.length → xs = some (m.sizes.map V.int) → H z = none → PlAt A H' p z m → (∀ b o, H b = some o → b ≠ p → H' b = some o) → Q .non H'
def isWish : V → Bool
  | .int i => decide (1 ≤ i)
  | _ => false
def sp_Plan_size_for (K : PySem.W.Frag) (A : Ad) : Sp := fun vs H Q E => ∃ (p z : Addr) (m : PlM) (v : V), vs = [.ref p, v] ∧ PlAt A H p z m ∧ Kind K H v ∧
  (isWish v = false → E (.ref A.BadWish) none H) ∧
  ∀ i, v = .int i → 1 ≤ i → (sizeFor m.sizes i = none → E (.ref A.TooLarge) none H) ∧ ∀ s, sizeFor m.sizes i = some s → Q (.int s) H
def sp_Plan_per (K : PySem.W.Frag) (A : Ad) : Sp := fun vs H Q E => ∃ (p z : Addr) (m : PlM) (v : V), vs = [.ref p, v] ∧ PlAt A H p z m ∧ Kind K H v ∧
  ((∀ i, v = .int i → i ∉ m.sizes) → E (.ref A.NoSize) none H) ∧ ∀ i, v = .int i → i ∈ m.sizes → Q (.int (m.length / i)) H
theorem all_flat_int (l : List Int) : (l.map V.int).all flatV = true := by
  rw [List.all_eq_true]
  intro x hx
  obtain ⟨b, _, rfl⟩ := List.mem_map.mp hx
  rfl
theorem inV_int (i : Int) (l : List Int) : inV (.int i) (l.map V.int) = decide (i ∈ l) := by
  induction l with
  | nil => rfl
  | cons j l ih =>
    have e : inV (.int i) ((j :: l).map V.int) = ((j == i) || inV (.int i) (l.map V.int)) := rfl
    rw [e, ih]
    by_cases h : j = i
    · subst h; simp
    · have h2 : (j == i) = false := by simpa using h
      rw [h2, Bool.false_or]
      exact decide_eq_decide.mpr ⟨fun q => List.mem_cons_of_mem _ q, fun q => by
        rcases List.mem_cons.mp q with q | q
        · exact absurd q.symm h
        · exact q⟩
section
variable {P : Program} {w : World} {K : PySem.W.Frag} {mg : Str → Option Value} {base : Heap} {A : Ad}
theorem ok_Plan_init (T : Tx K mg A) : If_ P w K mg base 2 A.Plan ["self", "pages", "length", "sizes"] (sp_Plan_init K A) := by
  refine Di.ok T.d_Plan_init sc_Plan_init bi_Plan_init (fun vs H Q E h => ?_) (fun f cdv Ar outer s H vs Q E hr h => ?_)
  · obtain ⟨p, dx, v1, v2, v3, xs, rfl, _⟩ := h; rfl
  · obtain ⟨p, dx, v1, v2, v3, xs, rfl, k1, k2, k3, hp, kE, k⟩ := h
    refine ⟨_, (pss_cons (ps_if (PW.pt (pw_or (pt_not (pt_val (pe_df (ok_is_whole T) hr (by decide) (by rfl) (pa_cons (pv 1) (pa_cons pe_int (pa_cons (pe_kint rfl T.k_MOST_PAGES) pa_nil)))))) (pw_or1 (pt_not (pt_val (pe_df (ok_is_whole T) hr (by decide) (by rfl) (pa_cons (pv 2) (pa_cons pe_int (pa_cons (pe_kint rfl T.k_MOST_LENGTH) pa_nil))))))))) (pss_one (ps_err rfl T.e_BadPlan (by rfl) (takes_of rfl rfl rfl rfl)))
    pss_nil)
    (pss_cons (ps_if (PW.pt (pw_or (pt_not (pt_val (pe_callB call_isi (by rfl) T.z_isinstance (by decide +kernel) (pa_cons (pv 3) (pa_cons (pe_bltn (v := .ty "list") (by rfl) T.z_list (by decide +kernel) rfl) pa_nil))))) (pw_or1 (pt_not (pt_chain op_le op_le pe_int (pe_callB call_len_seq (by rfl) T.z_len (by decide +kernel) (pa_cons (pv 3) pa_nil)) (pe_kint rfl T.k_MOST_SIZES)))))) (pss_one (ps_err rfl T.e_BadPlan (by rfl) (takes_of rfl rfl rfl rfl)))
    pss_nil)
    (pss_cons (ps_set (i := 4) sc_Plan_init.nd rfl (Or.inl rfl) pe_int)
    (pss_cons (ps_for (passes_of rfl) rfl (pi_list (pv 3)) (pg_name (i := 5) sc_Plan_init.nd rfl (Or.inl rfl))
    (pss_cons (ps_if (pt_not (pt_val (pe_df (ok_is_whole T) hr (by decide) (by rfl) (pa_cons (pv 5) (pa_cons (pe_op op_add (pv 4) pe_int) (pa_cons (pv 2) pa_nil)))))) (pss_one (ps_err rfl T.e_BadPlan (by rfl) (takes_of rfl rfl rfl rfl)))
    pss_nil)
    (pss_one (ps_set (i := 4) sc_Plan_init.nd rfl (Or.inl rfl) (pv 5)))))
    (pss_cons (ps_fld (pv 0) (pv 1) rfl)
    (pss_cons (ps_fld (pv 0) (pv 2) rfl)
    (pss_one (ps_fld (pv 0) (pe_callTy call_list_of (by rfl) T.z_list (by decide +kernel) (pa_cons (pv 3) pa_nil)) rfl)))))))), ?_⟩
    -- the pages and the length
    have bad : ∀ {b1 b2 b3 : Bool}, isWh v1 1 40 = b1 → isWh v2 1 60 = b2 → szOk xs v2 = b3 → (b1 && b2 && b3) = false → planOk v1 v2 xs = false := fun h1 h2 h3 h => by
      unfold planOk
      rw [h1, h2, h3, h]
    refine ⟨_, rfl, v1, 1, 40, rfl, k1, _, rfl, ?_⟩
    cases e1 : isWh v1 1 40 with
    | false => exact kE (bad e1 rfl rfl rfl)
    | true =>
    obtain ⟨pg, rfl, p1, p2⟩ := isWh_int e1
    refine ⟨_, rfl, v2, 1, 60, rfl, k2, _, rfl, ?_⟩
    cases e2 : isWh v2 1 60 with
    | false => exact kE (bad e1 e2 rfl rfl)
    | true =>
    obtain ⟨ln, rfl, l1, l2⟩ := isWh_int e2
    -- the sizes
    refine ⟨_, rfl, ?_⟩
    cases xs with
    | none =>
      obtain ⟨Ty, ty, hm, hn⟩ := k3
      have fin : E (.ref A.BadPlan) none H := kE (bad (b3 := false) e1 e2 rfl rfl)
      simp only [kinds, List.mem_cons, List.mem_nil_iff, or_false] at hm
      rcases hm with rfl | rfl | rfl | rfl | rfl | rfl
      · exact ⟨_, _, _, _, false, rfl, .ty _, ty, kit_ty (by decide +kernel), _, rfl, fin⟩
      · exact ⟨_, _, _, _, false, rfl, .ty _, ty, kit_ty (by decide +kernel), _, rfl, fin⟩
      · exact ⟨_, _, _, _, false, rfl, .ty _, ty, kit_ty (by decide +kernel), _, rfl, fin⟩
      · exact ⟨_, _, _, _, false, rfl, .ty _, ty, kit_ty (by decide +kernel), _, rfl, fin⟩
      · exact absurd rfl hn
      · exact ⟨_, _, _, _, false, rfl, .ty _, ty, kit_ty (by decide +kernel), _, rfl, fin⟩
    | some xs =>
    obtain ⟨z, rfl, hz, hl, hk⟩ := k3
    have nzp : z ≠ p := ne_of hz hp (by intro q; cases q)
    refine ⟨_, _, _, _, true, rfl, .ty _, tLst hz, kit_ty (by decide +kernel), _, rfl, iteF ?_⟩
    refine ⟨_, rfl, z, _, rfl, .inl (SqL.of hz), _, _, rfl, rfl, _, rfl, ?_⟩
    have bad3 : ∀ {b : Bool}, (decide (1 ≤ xs.length) && decide (xs.length ≤ 8) && rises ln 0 xs) = b → b = false → E (.ref A.BadPlan) none H := fun h1 h2 => kE (bad (b3 := false) e1 e2 (h1.trans h2) rfl)
    refine iteD (fun q1 => ?_) (fun q1 => ?_)
    rotate_left
    · refine ⟨_, rfl, bad3 (b := false) ?_ rfl⟩
      rw [decide_eq_false (by omega)]; rfl
    refine ⟨_, _, rfl, rfl, _, rfl, ?_⟩
    show if (!decide ((xs.length : Int) ≤ 8)) = true then _ else _
    refine iteND (fun q2 => ?_) (fun q2 => ?_)
    · refine bad3 (b := false) ?_ rfl
      rw [decide_eq_false (show ¬ xs.length ≤ 8 by omega)]; simp
    have g1 : decide (1 ≤ xs.length) = true := decide_eq_true (by omega)
    have g2 : decide (xs.length ≤ 8) = true := decide_eq_true (by omega)
    rw [g1, g2] at bad3
    -- for size in sizes
    refine ⟨_, rfl, z, rfl, ⟨_, SqL.of hz⟩, for_list (K := K) (a := z) (xs := xs) (fun i σ H' => H' = H ∧ ∃ (b : Int) (v : Option V), σ = [some (.ref p), some (.int pg), some (.int ln), some (.ref z), some (.int b), v] ∧ rises ln 0 xs = rises ln b (xs.drop i)) ⟨rfl, 0, _, rfl, rfl⟩ (fun i σ H' _ h => by rw [h.1]; exact SqL.of hz) ?_ ?_⟩
    · rintro i x σ H' hx ⟨rfl, b, v, rfl, hr0⟩
      have hxm : x ∈ xs := List.mem_of_getElem? hx
      have hd : xs.drop i = x :: xs.drop (i + 1) := by
        obtain ⟨h1, h2⟩ := List.getElem?_eq_some_iff.mp hx
        rw [List.drop_eq_getElem_cons h1, h2]
      refine ⟨_, rfl, _, rfl, _, _, rfl, rfl, _, rfl, x, b + 1, ln, rfl, hk x hxm, _, rfl, ?_⟩
      rw [hd] at hr0
      cases e3 : isWh x (b + 1) ln with
      | false =>
        refine bad3 (b := false) ?_ rfl
        rw [hr0]
        show (true && true && (isWh x (b + 1) ln && _)) = false
        rw [e3]; rfl
      | true =>
        obtain ⟨j, rfl, _⟩ := isWh_int e3
        refine ⟨_, rfl, rfl, j, _, rfl, hr0.trans ?_⟩
        show (isWh (.int j) (b + 1) ln && rises ln j (xs.drop (i + 1))) = _
        rw [e3]; rfl
    · rintro σ H' ⟨rfl, b, v, rfl, hr0⟩
      rw [List.drop_length] at hr0
      have good : planOk (.int pg) (.int ln) (some xs) = true := by
        unfold planOk
        rw [e1, e2]
        show (true && true && (decide (1 ≤ xs.length) && decide (xs.length ≤ 8) && rises ln 0 xs)) = true
        rw [g1, g2, hr0]; rfl
      obtain ⟨m, mok, m1, m2, m3⟩ := planOk_ok good
      cases m1
      cases m2
      have m4 : xs = m.sizes.map V.int := Option.some.inj m3
      subst m4
      -- the fields
      refine ⟨_, rfl, _, rfl, p, _, dx, _, rfl, hp, T.c_Plan, T.n_Plan_pages, (by decide), ?_⟩
      refine ⟨_, rfl, _, rfl, p, _, dx, _, rfl, upd_same, T.c_Plan, T.n_Plan_length, (by show 1 < 1000; decide), ?_⟩
      refine ⟨_, rfl, z, _, rfl, .inl (SqL.of (by rw [upd_ne nzp, upd_ne nzp]; exact hz)), fun l hl => ?_⟩
      have npl : p ≠ l := fun e => by rw [← e, upd_same] at hl; cases hl
      have hl0 : H' l = none := by rw [upd_ne npl.symm, upd_ne npl.symm] at hl; exact hl
      refine ⟨_, rfl, p, _, dx, _, rfl, (by rw [upd_ne npl]; exact upd_same), T.c_Plan, T.n_Plan_sizes, (by show 2 < 1000; decide), ?_⟩
      refine k m l _ mok rfl rfl m3 hl0 ⟨⟨dx, ?_⟩, ?_, mok⟩ fun b o e nb => ?_
      · rw [upd_same, plF_new _ _ _ m.sizes]
      · rw [upd_ne npl.symm, upd_same]
      · rw [upd_ne nb, upd_ne (ne_of_none e hl0), upd_ne nb, upd_ne nb]
        exact e
theorem ok_Plan_size_for (T : Tx K mg A) : Mf P w K mg base 1 A.Plan "size_for" ["self", "wish"] (sp_Plan_size_for K A) := by
  refine Dm.ok T.d_Plan_size_for sc_Plan_size_for bi_Plan_size_for (fun vs H Q E h => ?_) (fun f cdv Ar outer s H vs Q E hr h => ?_)
  · obtain ⟨p, z, m, v, rfl, _⟩ := h; rfl
  · obtain ⟨p, z, m, v, rfl, S, ⟨Ty, ty, hm, hi⟩, kB, k⟩ := h
    refine ⟨_, (pss_cons (ps_if (PW.pt (pw_or (pt_not (pt_val (pe_callB call_isi (by rfl) T.z_isinstance (by decide +kernel) (pa_cons (pv 1) (pa_cons (pe_bltn (v := .ty "int") (by rfl) T.z_int (by decide +kernel) rfl) pa_nil))))) (pw_or (pt_val (pe_callB call_isi (by rfl) T.z_isinstance (by decide +kernel) (pa_cons (pv 1) (pa_cons (pe_bltn (v := .ty "bool") (by rfl) T.z_bool (by decide +kernel) rfl) pa_nil)))) (pw_or1 (pt_cmpR op_lt (pv 1) pe_int (nomark _)))))) (pss_one (ps_err rfl T.e_BadWish (by rfl) (takes_of rfl rfl rfl rfl)))
    pss_nil)
    (pss_cons (ps_for (passes_of rfl) rfl (pi_list (pe_fld (pv 0) rfl)) (pg_name (i := 2) sc_Plan_size_for.nd rfl (Or.inl rfl))
    (pss_one (ps_if (pt_cmpR op_ge (pv 2) (pv 1) (nomark _)) (pss_one (ps_ret (pv 2)))
    pss_nil)))
    (pss_one (ps_err rfl T.e_TooLarge (by rfl) (takes_of rfl rfl rfl rfl))))), ?_⟩
    refine ⟨_, rfl, ?_⟩
    simp only [kinds, List.mem_cons, List.mem_nil_iff, or_false] at hm
    have nb : ¬ (∃ i, v = .int i) → isWish v = false := fun h => by
      cases v with
      | int i => exact absurd ⟨i, rfl⟩ h
      | _ => rfl
    rcases hm with rfl | rfl | rfl | rfl | rfl | rfl
    · obtain ⟨i, rfl⟩ := hi.mpr rfl
      refine ⟨_, _, _, _, true, rfl, .ty _, ty, kit_ty (by decide +kernel), _, rfl, iteF ⟨_, rfl, ?_⟩⟩
      refine ⟨_, _, _, _, false, rfl, .ty _, ty, kit_ty (by decide +kernel), _, rfl, iteF ⟨_, rfl, _, _, rfl, rfl, _, rfl, ?_⟩⟩
      refine iteD (fun h => kB ?_) (fun h => ?_)
      · show decide (1 ≤ i) = false
        exact decide_eq_false (by omega)
      obtain ⟨kT, kQ⟩ := k i rfl (by omega)
      refine ⟨_, rfl, S.fSizes T ?_⟩
      refine ⟨z, rfl, ⟨_, SqL.of S.sz⟩, for_list (K := K) (a := z) (xs := m.sizes.map V.int) (fun n σ H' => H' = H ∧ ∃ v, σ = [some (.ref p), some (.int i), v] ∧ ∀ s ∈ m.sizes.take n, ¬ i ≤ s) ⟨rfl, _, rfl, fun s hs => by simp at hs⟩ (fun n σ H' _ h => by rw [h.1]; exact SqL.of S.sz) ?_ ?_⟩
      · rintro n x σ H' hx ⟨rfl, v, rfl, hno⟩
        rw [List.getElem?_map] at hx
        cases e : m.sizes[n]? with
        | none => rw [e] at hx; cases hx
        | some s =>
        rw [e] at hx
        cases hx
        obtain ⟨h1, h2⟩ := List.getElem?_eq_some_iff.mp e
        refine ⟨_, rfl, _, rfl, _, _, rfl, rfl, _, rfl, ?_⟩
        refine iteD (fun h => ?_) (fun h => ?_)
        · refine ⟨_, rfl, kQ s ?_⟩
          unfold sizeFor
          rw [List.find?_eq_some_iff_append]
          refine ⟨decide_eq_true h, m.sizes.take n, m.sizes.drop (n + 1), ?_, fun a ha => ?_⟩
          · rw [← h2, List.getElem_cons_drop, List.take_append_drop]
          · have := hno a ha
            simpa using this
        · refine ⟨rfl, _, rfl, fun t ht => ?_⟩
          rw [List.take_succ, e] at ht
          rcases List.mem_append.mp ht with ht | ht
          · exact hno t ht
          · rw [Option.toList_some, List.mem_singleton] at ht
            rw [ht]; exact h
      · rintro σ H' ⟨rfl, v, rfl, hno⟩
        refine kT ?_
        unfold sizeFor
        rw [List.find?_eq_none]
        intro s hs
        rw [List.length_map, List.take_length] at hno
        have := hno s hs
        simpa using this
    · refine ⟨_, _, _, _, true, rfl, .ty _, ty, kit_ty (by decide +kernel), _, rfl, iteF ⟨_, rfl, ?_⟩⟩
      exact ⟨_, _, _, _, true, rfl, .ty _, ty, kit_ty (by decide +kernel), _, rfl, kB (nb fun h => absurd (hi.mp h) (by decide))⟩
    all_goals
      exact ⟨_, _, _, _, false, rfl, .ty _, ty, kit_ty (by decide +kernel), _, rfl, kB (nb fun h => absurd (hi.mp h) (by decide))⟩
theorem ok_Plan_per (T : Tx K mg A) : Mf P w K mg base 2 A.Plan "per" ["self", "size"] (sp_Plan_per K A) := by
  refine Dm.ok T.d_Plan_per sc_Plan_per bi_Plan_per (fun vs H Q E h => ?_) (fun f cdv Ar outer s H vs Q E hr h => ?_)
  · obtain ⟨p, z, m, v, rfl, _⟩ := h; rfl
  · obtain ⟨p, z, m, v, rfl, S, kv, kN, k⟩ := h
    refine ⟨_, (pss_cons (ps_if (PW.pt (pw_or (pt_not (pt_val (pe_df (ok_is_whole T) hr (by decide) (by rfl) (pa_cons (pv 1) (pa_cons pe_int (pa_cons (pe_fld (pv 0) rfl) pa_nil)))))) (pw_or1 (pt_cmpR op_notIn_seq (pv 1) (pe_fld (pv 0) rfl) rfl)))) (pss_one (ps_err rfl T.e_NoSize (by rfl) (takes_of rfl rfl rfl rfl)))
    pss_nil)
    (pss_one (ps_ret (pe_op op_fdiv (pe_fld (pv 0) rfl) (pv 1))))), ?_⟩
    refine ⟨_, rfl, _, rfl, S.fLength T ?_⟩
    refine ⟨v, 1, m.length, rfl, kv, _, rfl, ?_⟩
    cases e : isWh v 1 m.length with
    | false =>
      refine kN fun i hv hi => ?_
      have := S.ok.rng i hi
      subst hv
      have e2 : isWh (.int i) 1 m.length = true := by
        show (decide (1 ≤ i) && decide (i ≤ m.length)) = true
        rw [decide_eq_true this.1, decide_eq_true this.2]; rfl
      rw [e2] at e
      cases e
    | true =>
      obtain ⟨i, rfl, i1, i2⟩ := isWh_int e
      refine ⟨_, rfl, _, rfl, S.fSizes T ?_⟩
      refine ⟨z, _, rfl, .inl (SqL.of S.sz), rfl, all_flat_int _, _, rfl, ?_⟩
      show if (!inV (.int i) (m.sizes.map V.int)) = true then _ else _
      have ei : inV (.int i) (m.sizes.map V.int) = decide (i ∈ m.sizes) := inV_int i m.sizes
      rw [ei]
      refine iteND (fun h => kN fun j hj => ?_) (fun h => ?_)
      · cases hj; exact h
      · refine ⟨_, rfl, S.fLength T ?_⟩
        refine ⟨_, rfl, _, _, rfl, rfl, ⟨by omega, ?_⟩, k i rfl h⟩
        have := S.ok.l2
        omega
end
end Sb
namespace Sb
open PySem PySem.Spec PyProof.Rows L2
/-! ### the sizes that a cell gives -/
def szStep (span l : Int) (s : List Int × Int × Int) : List Int × Int × Int :=
  (if s.2.1 + 1 + s.2.2 % span ≤ l then s.1 ++ [s.2.1 + 1 + s.2.2 % span] else s.1, s.2.1 + 1 + s.2.2 % span, s.2.2 / span)
def szRun (span l c : Int) : Nat → List Int × Int × Int
  | 0 => ([], 0, c / 3)
  | n + 1 => szStep span l (szRun span l c n)
def spanOf (c l : Int) : Int := if c % 3 = 0 then l else 4
def sizesBy (c l : Int) (n : Nat) : List Int := if (szRun (spanOf c l) l c n).1 = [] then [l] else (szRun (spanOf c l) l c n).1
structure SzOk (l : Int) (n : Nat) (ss : List Int) (b : Int) : Prop where
  len : ss.length ≤ n
  ris : ss.Pairwise (· < ·)
  rng : ∀ s ∈ ss, 1 ≤ s ∧ s ≤ l ∧ s ≤ b
  nn : 0 ≤ b
theorem szRun_ok {span l c : Int} (hs : 0 < span) : ∀ n, SzOk l n (szRun span l c n).1 (szRun span l c n).2.1
  | 0 => ⟨Nat.le_refl _, .nil, (fun s hs => nomatch hs), Int.le_refl _⟩
  | n + 1 => by
    have ih := szRun_ok (span := span) (l := l) (c := c) hs n
    have hr := Int.emod_nonneg (szRun span l c n).2.2 (show span ≠ 0 by omega)
    show SzOk l (n + 1) (szStep span l (szRun span l c n)).1 (szStep span l (szRun span l c n)).2.1
    have i1 := ih.len
    have i4 := ih.nn
    unfold szStep
    dsimp only
    split
    · refine ⟨by rw [List.length_append]; simp; omega, ?_, fun s hm => ?_, by omega⟩
      · rw [List.pairwise_append]
        refine ⟨ih.ris, List.pairwise_singleton _ _, fun a ha b hb => ?_⟩
        rw [List.mem_singleton.mp hb]
        have := ih.rng a ha
        omega
      · rcases List.mem_append.mp hm with hm | hm
        · have := ih.rng s hm; omega
        · rw [List.mem_singleton.mp hm]; omega
    · exact ⟨by omega, ih.ris, fun s hm => by have := ih.rng s hm; omega, by omega⟩
theorem span_pos {c l : Int} (hl : 1 ≤ l) : 0 < spanOf c l := by unfold spanOf; split <;> omega
theorem sizesBy_ok {c l : Int} {n : Nat} (hl : 1 ≤ l) (hn : 1 ≤ n) : 1 ≤ (sizesBy c l n).length ∧ (sizesBy c l n).length ≤ n ∧ (sizesBy c l n).Pairwise (· < ·) ∧ ∀ s ∈ sizesBy c l n, 1 ≤ s ∧ s ≤ l := by
  have h := szRun_ok (l := l) (c := c) (span_pos (c := c) hl) n
  unfold sizesBy
  split
  · exact ⟨Nat.le_refl _, hn, List.pairwise_singleton _ _, fun s hs => by rw [List.mem_singleton.mp hs]; omega⟩
  · rename_i hne
    exact ⟨List.length_pos_iff.mpr hne, h.len, h.ris, fun s hs => by have := h.rng s hs; omega⟩
theorem eqv_nil (xs : List Int) : PyData.eqv (dInts xs) (dInts []) = decide (xs = []) := by
  cases xs with
  | nil => rfl
  | cons x xs => simp [PyData.eqv, PyData.eqvAll]
def sp_law_sizes_by (K : PySem.W.Frag) (A : Ad) : Sp := fun vs H Q _ => ∃ (c l : Int) (n : Nat), vs = [.int c, .int l, .int n] ∧ 1 ≤ l ∧ l ≤ 60 ∧ n ≤ 8 ∧
  ∀ q H', H q = none → Same H H' → H' q = some (.lst ((sizesBy c l n).map V.int)) → Q (.ref q) H'
section
variable {P : Program} {w : World} {K : PySem.W.Frag} {mg : Str → Option Value} {base : Heap} {A : Ad}
theorem ok_law_sizes_by (T : Tx K mg A) : Df P w K mg base 1 "_law_sizes_by" ["_law_cell", "_law_length", "_law_many"] (sp_law_sizes_by K A) := by
  refine Dd.ok T.d_law_sizes_by sc_law_sizes_by bi_law_sizes_by (fun vs H Q E h => ?_) (fun f cdv Ar outer s H vs Q E hr h => ?_)
  · obtain ⟨c, l, n, rfl, _⟩ := h; rfl
  · obtain ⟨c, l, n, rfl, l1, l2, hn, k⟩ := h
    refine ⟨_, (pss_cons (ps_set (i := 3) sc_law_sizes_by.nd rfl (Or.inl rfl) (pe_lst pa_nil))
    (pss_cons (ps_set (i := 4) sc_law_sizes_by.nd rfl (Or.inl rfl) pe_int)
    (pss_cons (ps_set (i := 5) sc_law_sizes_by.nd rfl (Or.inl rfl) (pe_op op_fdiv (pv 0) pe_int))
    (pss_cons (ps_set (i := 6) sc_law_sizes_by.nd rfl (Or.inl rfl) pe_int)
    (Evl.pss_cut (ps_if (pt_cmpR op_eq (pe_op op_mod (pv 0) pe_int) pe_int (nomark _)) (pss_one (ps_set (i := 6) sc_law_sizes_by.nd rfl (Or.inl rfl) (pv 1)))
    pss_nil)
    (pss_cons (ps_for (passes_of rfl) rfl (pi_range1 (by rfl) T.z_range (pa_cons (pv 2) pa_nil)) (pg_name (i := 7) sc_law_sizes_by.nd rfl (Or.inl rfl))
    (pss_cons (ps_set (i := 4) sc_law_sizes_by.nd rfl (Or.inl rfl) (pe_op op_add (pe_op op_add (pv 4) pe_int) (pe_op op_mod (pv 5) (pv 6))))
    (pss_cons (ps_set (i := 5) sc_law_sizes_by.nd rfl (Or.inl rfl) (pe_op op_fdiv (pv 5) (pv 6)))
    (pss_one (ps_if (pt_cmpR op_le (pv 4) (pv 1) (nomark _)) (pss_one (ps_expr (pe_bm PySem.F.plainAttrs_list PySem.F.slot_list_append PySem.F.type_list_append mt_append (pv 3) (pa_cons (pv 4) pa_nil))))
    pss_nil)))))
    (pss_cons (ps_if (pt_cmpR (op_eqD hr.units) (pv 3) (pe_lst pa_nil) (nomark _)) (pss_one (ps_expr (pe_bm PySem.F.plainAttrs_list PySem.F.slot_list_append PySem.F.type_list_append mt_append (pv 3) (pa_cons (pv 1) pa_nil))))
    pss_nil)
    (pss_one (ps_ret (pv 3)))))))))), ?_⟩
    -- found = []; before = 0; rest = cell // 3; span = 4
    refine ⟨(by decide), fun q hq => ?_⟩
    refine ⟨_, rfl, _, _, rfl, rfl, ⟨by decide, by decide⟩, ?_⟩
    refine ⟨fun σ H' => H' = upd H q (.lst []) ∧ σ = [some (.int c), some (.int l), some (.int n), some (.ref q), some (.int 0), some (.int (c / 3)), some (.int (spanOf c l)), none], ?_, ?_⟩
    · refine ⟨_, rfl, _, _, rfl, rfl, (by show (0 : Int) < 3; decide), rfl, _, rfl, ?_⟩
      refine iteD (fun h => ?_) (fun h => ?_)
      · refine ⟨_, rfl, rfl, ?_⟩
        have e : spanOf c l = l := if_pos (by simpa using h)
        rw [e]; rfl
      · refine ⟨rfl, ?_⟩
        have e : spanOf c l = 4 := if_neg (by simpa using h)
        rw [e]; rfl
    rintro σ H' ⟨rfl, rfl⟩
    have sp1 := span_pos (c := c) l1
    have sp2 : spanOf c l < 1073741824 := by unfold spanOf; split <;> omega
    have s0 : Same H (upd H q (.lst [])) := fun b o e => by rw [upd_ne (ne_of_none e hq)]; exact e
    -- the loop
    refine ⟨_, rfl, _, rfl, (by omega), (by omega), for_range (lo := 0) (n := _) (fun i σ H' => Same H H' ∧ H' q = some (.lst ((szRun (spanOf c l) l c i).1.map V.int)) ∧ ∃ v, σ = [some (.int c), some (.int l), some (.int n), some (.ref q), some (.int (szRun (spanOf c l) l c i).2.1), some (.int (szRun (spanOf c l) l c i).2.2), some (.int (spanOf c l)), v]) ⟨s0, upd_same, _, rfl⟩ ?_ ?_⟩
    · rintro i σ H1 hi ⟨s1, h1, v, rfl⟩
      have hi2 : i < n := by simpa using hi
      refine ⟨_, rfl, _, _, rfl, rfl, _, rfl, _, rfl, _, _, rfl, rfl, sp1, _, _, rfl, rfl, ?_⟩
      refine ⟨_, rfl, _, rfl, _, _, rfl, rfl, ⟨sp1, sp2⟩, ?_⟩
      refine ⟨_, rfl, _, rfl, _, _, rfl, rfl, _, rfl, ?_⟩
      refine iteD (fun h => ?_) (fun h => ?_)
      · refine ⟨_, rfl, .inl ⟨rfl, _, SqL.of h1⟩, _, rfl, q, _, _, rfl, rfl, h1, ?_, ?_⟩
        · rw [List.length_map]
          have := (szRun_ok (l := l) (c := c) sp1 i).len
          exact Nat.lt_of_le_of_lt (by omega : _ ≤ 8) (by decide)
        · refine ⟨fun b o e => by rw [upd_ne (ne_of_none e hq)]; exact s1 _ _ e, ?_, _, rfl⟩
          rw [upd_same]
          show _ = some (HO.lst ((szStep (spanOf c l) l (szRun (spanOf c l) l c i)).1.map V.int))
          unfold szStep
          dsimp only
          rw [if_pos h, List.map_append]
          rfl
      · refine ⟨s1, ?_, _, rfl⟩
        rw [h1]
        show _ = some (HO.lst ((szStep (spanOf c l) l (szRun (spanOf c l) l c i)).1.map V.int))
        unfold szStep
        dsimp only
        rw [if_neg h]
    · rintro σ H1 ⟨s1, h1, v, rfl⟩
      rw [Int.toNat_natCast] at h1 ⊢
      -- if found == []
      refine ⟨_, rfl, (by decide), fun e he => ?_⟩
      have nqe : q ≠ e := fun z => by rw [z, he] at h1; cases h1
      refine ⟨_, _, dp_ints (SqL.of (by rw [upd_ne nqe]; exact h1)), dp_ints (l := []) (SqL.of upd_same), (sh_ints _).shaped (by decide), (sh_ints _).shaped (by decide), _, rfl, ?_⟩
      rw [eqv_nil]
      have s2 : Same H (upd H1 e (.lst [])) := fun b o eb => by rw [upd_ne (ne_of_none (s1 _ _ eb) he)]; exact s1 _ _ eb
      refine iteD (fun h => ?_) (fun h => ?_)
      · have h2 : (upd H1 e (.lst [])) q = some (.lst []) := by rw [upd_ne nqe, h1, h]; rfl
        refine ⟨_, rfl, .inl ⟨rfl, _, SqL.of h2⟩, _, rfl, q, _, _, rfl, rfl, h2, (by decide), ?_⟩
        refine ⟨_, rfl, k q _ hq (fun b o eb => by rw [upd_ne (ne_of_none eb hq)]; exact s2 _ _ eb) ?_⟩
        rw [upd_same]
        unfold sizesBy
        rw [if_pos h]; rfl
      · refine ⟨_, rfl, k q _ hq s2 ?_⟩
        rw [upd_ne nqe, h1]
        unfold sizesBy
        rw [if_neg h]
end
end Sb
namespace Sb
open PySem PySem.Spec PyProof.Rows L2
/-! ### a room, in plain Lean: what stands on each page -/
structure Sf where
  z : Nat
  tk : List Bool
abbrev Tb := Nat → Option Sf
def updT (S : Tb) (i : Nat) (o : Option Sf) : Tb := fun j => if j = i then o else S j
theorem updT_same {S : Tb} {i : Nat} {o : Option Sf} : updT S i o i = o := if_pos rfl
theorem updT_ne {S : Tb} {i j : Nat} {o : Option Sf} (h : j ≠ i) : updT S i o j = S j := if_neg h
def pgs (S : Tb) (n : Nat) : List Nat := (List.range n).filter fun i => (S i).isSome
def nones (S : Tb) (n : Nat) : List Nat := (List.range n).filter fun i => (S i).isNone
def isEmp (S : Tb) (i : Nat) : Bool := match S i with
  | some s => decide (cnt s.tk = 0)
  | none => false
def emps (S : Tb) (n : Nat) : List Nat := (List.range n).filter (isEmp S)
/-- which page becomes a shelf next, and what is left of the others -/
def fresh (S : Tb) (n : Nat) : Option (Nat × Tb) := match nones S n with
  | i :: _ => some (i, S)
  | [] => match emps S n with
    | i :: _ => some (i, updT S i none)
    | [] => none
def cn (S : Tb) (k : Nat) : Nat := match S k with
  | some s => cnt s.tk
  | none => 0
def better (S : Tb) (b : Option Nat) (c : Nat) : Bool := match b with
  | none => true
  | some k => decide (cn S k < c)
def pickStep (S : Tb) (z : Nat) (b : Option Nat) (i : Nat) : Option Nat := match S i with
  | some s => if s.z = z ∧ cnt s.tk < s.tk.length ∧ better S b (cnt s.tk) = true then some i else b
  | none => b
def pick (S : Tb) (n z : Nat) : Option Nat := (pgs S n).foldl (pickStep S z) none
def shelfFor (S : Tb) (n z k : Nat) : Option (Nat × Tb) := match pick S n z with
  | some i => some (i, S)
  | none => match fresh S n with
    | none => none
    | some (i, S1) => some (i, updT S1 i (some ⟨z, List.replicate k false⟩))
theorem mem_pgs {S : Tb} {n i : Nat} : i ∈ pgs S n ↔ i < n ∧ (S i).isSome = true := by unfold pgs; rw [List.mem_filter, List.mem_range]
theorem mem_nones {S : Tb} {n i : Nat} : i ∈ nones S n ↔ i < n ∧ (S i).isNone = true := by unfold nones; rw [List.mem_filter, List.mem_range]
theorem mem_emps {S : Tb} {n i : Nat} : i ∈ emps S n ↔ i < n ∧ isEmp S i = true := by unfold emps; rw [List.mem_filter, List.mem_range]
theorem pgs_lt (S : Tb) (n : Nat) : (pgs S n).Pairwise (· < ·) := List.Pairwise.filter _ List.pairwise_lt_range
theorem nones_lt (S : Tb) (n : Nat) : (nones S n).Pairwise (· < ·) := List.Pairwise.filter _ List.pairwise_lt_range
theorem emps_lt (S : Tb) (n : Nat) : (emps S n).Pairwise (· < ·) := List.Pairwise.filter _ List.pairwise_lt_range
theorem pgs_len (S : Tb) (n : Nat) : (pgs S n).length ≤ n := by
  refine Nat.le_trans (List.length_filter_le _ _) ?_
  rw [List.length_range]; exact Nat.le_refl _
theorem emps_len (S : Tb) (n : Nat) : (emps S n).length ≤ n := by
  refine Nat.le_trans (List.length_filter_le _ _) ?_
  rw [List.length_range]; exact Nat.le_refl _
theorem nones_len (S : Tb) (n : Nat) : (nones S n).length ≤ n := by
  refine Nat.le_trans (List.length_filter_le _ _) ?_
  rw [List.length_range]; exact Nat.le_refl _
theorem nodup_lt {l : List Nat} (h : l.Pairwise (· < ·)) : l.Nodup := h.imp fun {a b} h => Nat.ne_of_lt h
/-- rising lists of the same members are one -/
theorem eq_lt : ∀ {l l' : List Nat}, l.Pairwise (· < ·) → l'.Pairwise (· < ·) → (∀ i, i ∈ l ↔ i ∈ l') → l = l'
  | [], [], _, _, _ => rfl
  | [], b :: l', _, _, h => absurd ((h b).mpr List.mem_cons_self) (by simp)
  | a :: l, [], _, _, h => absurd ((h a).mp List.mem_cons_self) (by simp)
  | a :: l, b :: l', h1, h2, h => by
    obtain ⟨a1, a2⟩ := List.pairwise_cons.mp h1
    obtain ⟨b1, b2⟩ := List.pairwise_cons.mp h2
    have e : a = b := by
      rcases List.mem_cons.mp ((h a).mp List.mem_cons_self) with e | m1
      · exact e
      rcases List.mem_cons.mp ((h b).mpr List.mem_cons_self) with e | m2
      · exact e.symm
      have := b1 a m1
      have := a1 b m2
      omega
    subst e
    congr 1
    refine eq_lt a2 b2 fun i => ⟨fun q => ?_, fun q => ?_⟩
    · rcases List.mem_cons.mp ((h i).mp (List.mem_cons_of_mem _ q)) with e | m
      · have := a1 i q; omega
      · exact m
    · rcases List.mem_cons.mp ((h i).mpr (List.mem_cons_of_mem _ q)) with e | m
      · have := b1 i q; omega
      · exact m
/-- whole numbers in order are one list -/
theorem eq_le : ∀ {l l' : List Int}, l.Pairwise (· ≤ ·) → l'.Pairwise (· ≤ ·) → l.Perm l' → l = l'
  | [], l', _, _, h => (List.nil_perm.mp h).symm
  | a :: l, [], _, _, h => absurd h.symm (by intro q; have := List.nil_perm.mp q; cases this)
  | a :: l, b :: l', h1, h2, h => by
    obtain ⟨a1, a2⟩ := List.pairwise_cons.mp h1
    obtain ⟨b1, b2⟩ := List.pairwise_cons.mp h2
    have e : a = b := by
      rcases List.mem_cons.mp (h.mem_iff.mp List.mem_cons_self) with e | m1
      · exact e
      rcases List.mem_cons.mp (h.mem_iff.mpr List.mem_cons_self) with e | m2
      · exact e.symm
      have := b1 a m1
      have := a1 b m2
      omega
    subst e
    rw [eq_le a2 b2 (List.Perm.cons_inv h)]
abbrev castI (l : List Nat) : List Int := l.map fun i : Nat => (i : Int)
theorem castI_le {l : List Nat} (h : l.Pairwise (· < ·)) : (castI l).Pairwise (· ≤ ·) := List.pairwise_map.mpr (h.imp fun {a b} q => by omega)
/-- a list of whole numbers from the naturals -/
abbrev nV (l : List Nat) : List V := l.map fun i => V.int (i : Nat)
theorem castI_V (l : List Nat) : (castI l).map V.int = nV l := by rw [List.map_map]; rfl

/-! ### a room in the heap -/
inductive Lb where
  | rm | d | b | c
  | p (i : Nat)
  | t (i : Nat)
deriving DecidableEq
def live (S : Tb) : Lb → Prop
  | .p i => (S i).isSome = true
  | .t i => (S i).isSome = true
  | _ => True
structure Hs where
  ad : Lb → Addr
  dx : Lb → Addr
  js : List Nat
  bare : List Nat
  S : Tb
  cs : List Int
def sfOf (S : Tb) (i : Nat) : Sf := (S i).getD ⟨0, []⟩
theorem sfOf_at {S : Tb} {i : Nat} {x : Sf} (h : S i = some x) : sfOf S i = x := by unfold sfOf; rw [h]; rfl
def rmF (pa d b c : Addr) : List (Str × V) := [("plan", .ref pa), ("rows", .ref d), ("bare", .ref b), ("cells", .ref c)]
def shM (i : Nat) (x : Sf) : ShM := ⟨i, x.z, x.tk⟩
def kvR (ad : Lb → Addr) (js : List Nat) : List (Key × V) := js.map fun i => (Sum.inl ((i : Nat) : Int), V.ref (ad (.p i)))
def Hs.ob (s : Hs) (A : Ad) (pa : Addr) : Lb → HO
  | .rm => .ins A.Room (s.dx .rm) (rmF pa (s.ad .d) (s.ad .b) (s.ad .c))
  | .d => .dK (kvR s.ad s.js)
  | .b => .lst (nV s.bare)
  | .c => .lst (s.cs.map V.int)
  | .p i => .ins A.Shelf (s.dx (.p i)) (shF (shM i (sfOf s.S i)) (s.ad (.t i)) (cnt (sfOf s.S i).tk))
  | .t i => .lst ((sfOf s.S i).tk.map V.bl)
def foot (s : Hs) (a : Addr) : Prop := ∃ l, live s.S l ∧ s.ad l = a
abbrev PlM.n (m : PlM) : Nat := m.pages.toNat
abbrev PlM.L (m : PlM) : Nat := m.length.toNat
def SOk (m : PlM) (S : Tb) : Prop := ∀ i x, S i = some x → i < m.n ∧ (x.z : Int) ∈ m.sizes ∧ x.tk.length = m.L / x.z
structure RmI (A : Ad) (H : Hp) (pa z : Addr) (m : PlM) (s : Hs) : Prop where
  pl : PlAt A H pa z m
  at_ : ∀ l, live s.S l → H (s.ad l) = some (s.ob A pa l)
  inj : ∀ l l', live s.S l → live s.S l' → s.ad l = s.ad l' → l = l'
  npl : ∀ l, live s.S l → s.ad l ≠ pa ∧ s.ad l ≠ z
  js : s.js.Perm (pgs s.S m.n)
  ok : SOk m s.S
  cl : s.cs.length = m.n * m.L
/-- what one deed may change: the room's own objects; new ones may come -/
def Stp (F : Addr → Prop) (H : Hp) (F' : Addr → Prop) (H' : Hp) : Prop := (∀ a o, H a = some o → ¬ F a → H' a = some o) ∧ ∀ a, F' a → F a ∨ H a = none
theorem Stp.refl {F : Addr → Prop} {H : Hp} : Stp F H F H := ⟨fun _ _ h _ => h, fun _ h => .inl h⟩
theorem Stp.trans {F F1 F2 : Addr → Prop} {H H1 H2 : Hp} (h : Stp F H F1 H1) (h' : Stp F1 H1 F2 H2) : Stp F H F2 H2 := by
  refine ⟨fun a o e n => h'.1 a o (h.1 a o e n) fun q => ?_, fun a q => ?_⟩
  · rcases h.2 a q with q | q
    · exact n q
    · rw [e] at q; cases q
  · rcases h'.2 a q with q | q
    · exact h.2 a q
    · by_cases f : F a
      · exact .inl f
      · right
        cases e : H a with
        | none => rfl
        | some o => rw [h.1 a o e f] at q; cases q
theorem Stp.same {F : Addr → Prop} {H H' : Hp} (h : Same H H') : Stp F H F H' := ⟨fun a o e _ => h a o e, fun _ h => .inl h⟩
theorem rmF_plan (pa d b c : Addr) : (rmF pa d b c).lookup ("plan" : Str) = some (.ref pa) := by kernel_rfl
theorem rmF_rows (pa d b c : Addr) : (rmF pa d b c).lookup ("rows" : Str) = some (.ref d) := by kernel_rfl
theorem rmF_bare (pa d b c : Addr) : (rmF pa d b c).lookup ("bare" : Str) = some (.ref b) := by kernel_rfl
theorem rmF_cells (pa d b c : Addr) : (rmF pa d b c).lookup ("cells" : Str) = some (.ref c) := by kernel_rfl
theorem rmF_new (pa d b c : Addr) : putF ("cells" : Str) (.ref c) (putF ("bare" : Str) (.ref b) (putF ("rows" : Str) (.ref d) (putF ("plan" : Str) (.ref pa) []))) = rmF pa d b c := by kernel_rfl
theorem rmF_no {x : Str} (h : (["plan", "rows", "bare", "cells"] : List Str).all (fun y => !(x == y)) = true) (pa d b c : Addr) : (rmF pa d b c).lookup x = none := by
  simp only [List.all_cons, List.all_nil, Bool.and_eq_true, Bool.not_eq_true'] at h
  obtain ⟨h1, h2, h3, h4, _⟩ := h
  unfold rmF
  simp [List.lookup, h1, h2, h3, h4]
section
variable {K : PySem.W.Frag} {mg : Str → Option Value} {A : Ad} {H H' : Hp} {pa z : Addr} {m : PlM} {s : Hs} {Q : V → Prop}
theorem RmI.rm (I : RmI A H pa z m s) : H (s.ad .rm) = some (.ins A.Room (s.dx .rm) (rmF pa (s.ad .d) (s.ad .b) (s.ad .c))) := I.at_ .rm trivial
theorem RmI.d (I : RmI A H pa z m s) : H (s.ad .d) = some (.dK (kvR s.ad s.js)) := I.at_ .d trivial
theorem RmI.b (I : RmI A H pa z m s) : H (s.ad .b) = some (.lst (nV s.bare)) := I.at_ .b trivial
theorem RmI.c (I : RmI A H pa z m s) : H (s.ad .c) = some (.lst (s.cs.map V.int)) := I.at_ .c trivial
theorem RmI.fPlan (I : RmI A H pa z m s) (T : Tx K mg A) (q : Q (.ref pa)) : RFld K (s.ad .rm) "plan" H Q := ⟨_, _, _, _, _, rfl, I.rm, T.c_Room, T.n_Room_plan, rmF_plan _ _ _ _, q⟩
theorem RmI.fRows (I : RmI A H pa z m s) (T : Tx K mg A) (q : Q (.ref (s.ad .d))) : RFld K (s.ad .rm) "rows" H Q := ⟨_, _, _, _, _, rfl, I.rm, T.c_Room, T.n_Room_rows, rmF_rows _ _ _ _, q⟩
theorem RmI.fBare (I : RmI A H pa z m s) (T : Tx K mg A) (q : Q (.ref (s.ad .b))) : RFld K (s.ad .rm) "bare" H Q := ⟨_, _, _, _, _, rfl, I.rm, T.c_Room, T.n_Room_bare, rmF_bare _ _ _ _, q⟩
theorem RmI.fCells (I : RmI A H pa z m s) (T : Tx K mg A) (q : Q (.ref (s.ad .c))) : RFld K (s.ad .rm) "cells" H Q := ⟨_, _, _, _, _, rfl, I.rm, T.c_Room, T.n_Room_cells, rmF_cells _ _ _ _, q⟩
theorem RmI.sh {i : Nat} {x : Sf} (I : RmI A H pa z m s) (h : s.S i = some x) : ShAt A H (s.ad (.p i)) (s.ad (.t i)) (shM i x) := by
  have lv : (s.S i).isSome = true := by rw [h]; rfl
  have e1 := I.at_ (.p i) lv
  have e2 := I.at_ (.t i) lv
  have es := sfOf_at h
  refine ⟨⟨s.dx (.p i), ?_⟩, ?_⟩
  · rw [e1]; show some (HO.ins _ _ (shF (shM i (sfOf s.S i)) _ (cnt (sfOf s.S i).tk))) = _; rw [es]; rfl
  · rw [e2]; show some (HO.lst ((sfOf s.S i).tk.map V.bl)) = _; rw [es]; rfl
theorem RmI.ne {l l' : Lb} (I : RmI A H pa z m s) (h1 : live s.S l) (h2 : live s.S l') (n : l ≠ l') : s.ad l ≠ s.ad l' := fun e => n (I.inj l l' h1 h2 e)
theorem RmI.keep (I : RmI A H pa z m s) (k : ∀ a o, H a = some o → foot s a ∨ a = pa ∨ a = z → H' a = some o) : RmI A H' pa z m s where
  pl := I.pl.keep fun b o e h => k b o e (.inr h)
  at_ := fun l h => k _ _ (I.at_ l h) (.inl ⟨l, h, rfl⟩)
  inj := I.inj
  npl := I.npl
  js := I.js
  ok := I.ok
  cl := I.cl
theorem RmI.same (I : RmI A H pa z m s) (k : Same H H') : RmI A H' pa z m s := I.keep fun a o e _ => k a o e
theorem RmI.live_t (I : RmI A H pa z m s) {i : Nat} {x : Sf} (h : s.S i = some x) : live s.S (.t i) := by show (s.S i).isSome = true; rw [h]; rfl
theorem RmI.live_p (I : RmI A H pa z m s) {i : Nat} {x : Sf} (h : s.S i = some x) : live s.S (.p i) := by show (s.S i).isSome = true; rw [h]; rfl
/-- the plan stays, whatever is written at the room's own -/
theorem RmI.plk (I : RmI A H pa z m s) (k : ∀ a o, H a = some o → ¬ foot s a → H' a = some o) : PlAt A H' pa z m := I.pl.keep fun b o e h => k b o e fun ⟨l, hl, el⟩ => by
  have := I.npl l hl
  rcases h with h | h
  · exact this.1 (el.trans h)
  · exact this.2 (el.trans h)
/-- one object of the room is written -/
theorem RmI.put {s' : Hs} {l0 : Lb} (I : RmI A H pa z m s) (h0 : live s.S l0) (had : s'.ad = s.ad) (hlv : ∀ l, live s'.S l → live s.S l) (hob : ∀ l, live s'.S l → l ≠ l0 → s'.ob A pa l = s.ob A pa l)
    (js : s'.js.Perm (pgs s'.S m.n)) (ok : SOk m s'.S) (cl : s'.cs.length = m.n * m.L) : RmI A (upd H (s.ad l0) (s'.ob A pa l0)) pa z m s' where
  pl := I.plk fun a o e n => by rw [upd_ne (fun q => n ⟨l0, h0, q.symm⟩)]; exact e
  at_ := fun l h => by
    rw [had]
    by_cases q : l = l0
    · rw [q, upd_same]
    · rw [upd_ne (I.ne (hlv l h) h0 q), I.at_ l (hlv l h), hob l h q]
  inj := fun l l' h h' e => I.inj l l' (hlv l h) (hlv l' h') (by rw [had] at e; exact e)
  npl := fun l h => by rw [had]; exact I.npl l (hlv l h)
  js := js
  ok := ok
  cl := cl
theorem RmI.putCells {cs : List Int} (I : RmI A H pa z m s) (h : cs.length = m.n * m.L) : RmI A (upd H (s.ad .c) (.lst (cs.map V.int))) pa z m { s with cs := cs } :=
  I.put (s' := { s with cs := cs }) (l0 := .c) trivial rfl (fun _ h => h) (fun l h n => by cases l <;> first | rfl | exact absurd rfl n) I.js I.ok h
theorem RmI.putBare {bare : List Nat} (I : RmI A H pa z m s) : RmI A (upd H (s.ad .b) (.lst (nV bare))) pa z m { s with bare := bare } :=
  I.put (s' := { s with bare := bare }) (l0 := .b) trivial rfl (fun _ h => h) (fun l h n => by cases l <;> first | rfl | exact absurd rfl n) I.js I.ok I.cl
theorem Stp.put {s : Hs} {l0 : Lb} {o : HO} (h : live s.S l0) : Stp (foot s) H (foot s) (upd H (s.ad l0) o) := ⟨fun a o e n => by rw [upd_ne (fun q => n ⟨l0, h, q.symm⟩)]; exact e, fun _ h => .inl h⟩
/-- a shelf's row is written -/
theorem RmI.putSh {i : Nat} {x y : Sf} (I : RmI A H pa z m s) (h : s.S i = some x) (S : ShAt A H' (s.ad (.p i)) (s.ad (.t i)) (shM i y)) (k : But2 (s.ad (.p i)) (s.ad (.t i)) H H') (hz : y.z = x.z) (hl : y.tk.length = x.tk.length) :
    ∃ dx, RmI A H' pa z m { s with dx := dx, S := updT s.S i (some y) } := by
  obtain ⟨⟨dx, e1⟩, e2⟩ := S
  have lv : ∀ l, live (updT s.S i (some y)) l → live s.S l := fun l q => by
    cases l with
    | p j =>
      by_cases e : j = i
      · subst e; exact I.live_p h
      · have q' : (updT s.S i (some y) j).isSome = true := q
        rw [updT_ne e] at q'; exact q'
    | t j =>
      by_cases e : j = i
      · subst e; exact I.live_t h
      · have q' : (updT s.S i (some y) j).isSome = true := q
        rw [updT_ne e] at q'; exact q'
    | _ => trivial
  have sy : sfOf (updT s.S i (some y)) i = y := sfOf_at updT_same
  have sn : ∀ j, j ≠ i → sfOf (updT s.S i (some y)) j = sfOf s.S j := fun j e => by unfold sfOf; rw [updT_ne e]
  refine ⟨fun l => if l = .p i then dx else s.dx l, ?_⟩
  constructor
  · exact I.plk fun a o e n => k a o e (fun q => n ⟨_, I.live_p h, q.symm⟩) (fun q => n ⟨_, I.live_t h, q.symm⟩)
  · intro l hl'
    by_cases q1 : l = .p i
    · subst q1
      show H' (s.ad (.p i)) = some (HO.ins A.Shelf (if Lb.p i = Lb.p i then dx else s.dx (.p i)) (shF (shM i (sfOf (updT s.S i (some y)) i)) (s.ad (.t i)) (cnt (sfOf (updT s.S i (some y)) i).tk)))
      rw [if_pos rfl, sy, e1]; rfl
    by_cases q2 : l = .t i
    · subst q2
      show H' (s.ad (.t i)) = some (HO.lst ((sfOf (updT s.S i (some y)) i).tk.map V.bl))
      rw [sy, e2]; rfl
    have e := k _ _ (I.at_ l (lv l hl')) (I.ne (lv l hl') (I.live_p h) q1) (I.ne (lv l hl') (I.live_t h) q2)
    refine e.trans ?_
    congr 1
    cases l with
    | p j =>
      have nj : j ≠ i := fun q => q1 (by rw [q])
      show HO.ins A.Shelf (s.dx (.p j)) (shF (shM j (sfOf s.S j)) (s.ad (.t j)) (cnt (sfOf s.S j).tk)) = HO.ins A.Shelf (if Lb.p j = Lb.p i then dx else s.dx (.p j)) (shF (shM j (sfOf (updT s.S i (some y)) j)) (s.ad (.t j)) (cnt (sfOf (updT s.S i (some y)) j).tk))
      rw [if_neg q1, sn j nj]
    | t j =>
      have nj : j ≠ i := fun q => q2 (by rw [q])
      show HO.lst ((sfOf s.S j).tk.map V.bl) = HO.lst ((sfOf (updT s.S i (some y)) j).tk.map V.bl)
      rw [sn j nj]
    | _ => rfl
  · exact fun l l' a b => I.inj l l' (lv l a) (lv l' b)
  · exact fun l a => I.npl l (lv l a)
  · have e : pgs (updT s.S i (some y)) m.n = pgs s.S m.n := by
      unfold pgs
      refine List.filter_congr fun j _ => ?_
      by_cases q : j = i
      · subst q; rw [updT_same, h]; rfl
      · rw [updT_ne q]
    show s.js.Perm (pgs (updT s.S i (some y)) m.n)
    rw [e]; exact I.js
  · intro j w hw
    have hw' : updT s.S i (some y) j = some w := hw
    by_cases q : j = i
    · subst q
      rw [updT_same] at hw'
      obtain rfl := Option.some.inj hw'
      obtain ⟨a1, a2, a3⟩ := I.ok j x h
      rw [hz, hl]
      exact ⟨a1, a2, a3⟩
    · rw [updT_ne q] at hw'
      exact I.ok j w hw'
  · exact I.cl
theorem foot_set {i : Nat} {x y : Sf} {dx : Lb → Addr} (h : s.S i = some x) : ∀ a, foot { s with dx := dx, S := updT s.S i (some y) } a ↔ foot s a := by
  have e : ∀ l, live (updT s.S i (some y)) l ↔ live s.S l := fun l => by
    cases l with
    | p j =>
      show (updT s.S i (some y) j).isSome = true ↔ (s.S j).isSome = true
      by_cases q : j = i
      · subst q; rw [updT_same, h]; simp
      · rw [updT_ne q]
    | t j =>
      show (updT s.S i (some y) j).isSome = true ↔ (s.S j).isSome = true
      by_cases q : j = i
      · subst q; rw [updT_same, h]; simp
      · rw [updT_ne q]
    | _ => exact Iff.rfl
  exact fun a => ⟨fun ⟨l, a1, a2⟩ => ⟨l, (e l).mp a1, a2⟩, fun ⟨l, a1, a2⟩ => ⟨l, (e l).mpr a1, a2⟩⟩
theorem Stp.but2 {i : Nat} {x y : Sf} {dx : Lb → Addr} (h : s.S i = some x) (k : But2 (s.ad (.p i)) (s.ad (.t i)) H H') : Stp (foot s) H (foot { s with dx := dx, S := updT s.S i (some y) }) H' := by
  have lp : live s.S (.p i) := by show (s.S i).isSome = true; rw [h]; rfl
  refine ⟨fun a o e n => k a o e (fun q => n ⟨_, lp, q.symm⟩) (fun q => n ⟨.t i, lp, q.symm⟩), fun a q => .inl ((foot_set h a).mp q)⟩
/-- the dict's lookups -/
theorem valV_kvR {ad : Lb → Addr} (j : Nat) : ∀ js : List Nat, valV (kvR ad js) (Sum.inl (j : Int)) = if j ∈ js then some (V.ref (ad (.p j))) else none
  | [] => rfl
  | i :: js => by
    show valV ((Sum.inl ((i : Nat) : Int), V.ref (ad (.p i))) :: kvR ad js) _ = _
    by_cases e : i = j
    · subst e
      rw [valV_pos rfl, if_pos List.mem_cons_self]
    · rw [valV_neg (fun q => e (by injection q with q; omega)), valV_kvR j js]
      have : (j ∈ i :: js) ↔ (j ∈ js) := by rw [List.mem_cons]; exact ⟨fun q => q.elim (fun q => absurd q.symm e) id, .inr⟩
      by_cases q : j ∈ js
      · rw [if_pos q, if_pos (this.mpr q)]
      · rw [if_neg q, if_neg (fun z => q (this.mp z))]
theorem valV_kvR_neg {ad : Lb → Addr} {k : Int} (h : k < 0) : ∀ js : List Nat, valV (kvR ad js) (Sum.inl k) = none
  | [] => rfl
  | i :: js => by
    show valV ((Sum.inl ((i : Nat) : Int), V.ref (ad (.p i))) :: kvR ad js) _ = _
    rw [valV_neg (fun q => by injection q with q; omega)]
    exact valV_kvR_neg h js
theorem RmI.mem_js {i : Nat} (I : RmI A H pa z m s) : i ∈ s.js ↔ (s.S i).isSome = true := by
  rw [I.js.mem_iff, mem_pgs]
  refine ⟨fun h => h.2, fun h => ⟨?_, h⟩⟩
  obtain ⟨x, hx⟩ := Option.isSome_iff_exists.mp h
  exact (I.ok i x hx).1
theorem RmI.dget {i : Nat} {x : Sf} (I : RmI A H pa z m s) (h : s.S i = some x) : DGet H (s.ad .d) (.int (i : Nat)) (some (.ref (s.ad (.p i)))) := by
  have e : valV (kvR s.ad s.js) (Sum.inl (i : Int)) = some (V.ref (s.ad (.p i))) := by rw [valV_kvR, if_pos (I.mem_js.mpr (by rw [h]; rfl))]
  have g := DGet.k (k := Sum.inl (i : Int)) I.d
  rw [e] at g
  exact g
theorem RmI.dget_no {i : Nat} (I : RmI A H pa z m s) (h : s.S i = none) : DGet H (s.ad .d) (.int (i : Nat)) none := by
  have e : valV (kvR s.ad s.js) (Sum.inl (i : Int)) = none := by rw [valV_kvR, if_neg (fun q => by have := I.mem_js.mp q; rw [h] at this; cases this)]
  have g := DGet.k (k := Sum.inl (i : Int)) I.d
  rw [e] at g
  exact g
theorem RmI.dget_neg {k : Int} (I : RmI A H pa z m s) (h : k < 0) : DGet H (s.ad .d) (.int k) none := by
  have g := DGet.k (k := Sum.inl k) I.d
  rw [valV_kvR_neg h] at g
  exact g
theorem RmI.keysD (I : RmI A H pa z m s) (hm : m.Ok) : (kvR s.ad s.js).map (·.1) = (castI s.js).map Sum.inl ∧ (castI s.js).length < 64 ∧ ∀ ys : List Int, ys.Perm (castI s.js) → ys.Pairwise (· ≤ ·) → ys = castI (pgs s.S m.n) := by
  refine ⟨?_, ?_, fun ys h1 h2 => ?_⟩
  · unfold kvR castI
    rw [List.map_map, List.map_map]; rfl
  · rw [List.length_map, I.js.length_eq]
    have := pgs_len s.S m.n
    have := hm.p2
    have : m.n ≤ 40 := by show m.pages.toNat ≤ 40; omega
    omega
  · exact eq_le h2 (castI_le (pgs_lt _ _)) (h1.trans (I.js.map _))
/-- a page's shelf goes -/
theorem RmI.drop {i : Nat} (I : RmI A H pa z m s) : RmI A (upd H (s.ad .d) (.dK (dropK (kvR s.ad s.js) (Sum.inl (i : Int))))) pa z m { s with js := s.js.filter (fun j => decide (j ≠ i)), S := updT s.S i none } := by
  have e : dropK (kvR s.ad s.js) (Sum.inl (i : Int)) = kvR s.ad (s.js.filter fun j => decide (j ≠ i)) := by
    unfold dropK kvR
    rw [List.filter_map]
    congr 1
    refine List.filter_congr fun j _ => ?_
    show decide ((Sum.inl ((j : Nat) : Int) : Key) ≠ Sum.inl (i : Int)) = decide (j ≠ i)
    refine decide_eq_decide.mpr ⟨fun h q => h (by rw [q]), fun h q => h (by injection q with q; omega)⟩
  have lv : ∀ l, live (updT s.S i none) l → live s.S l := fun l q => by
    cases l with
    | p j =>
      have q' : (updT s.S i none j).isSome = true := q
      by_cases e : j = i
      · subst e; rw [updT_same] at q'; cases q'
      · rw [updT_ne e] at q'; exact q'
    | t j =>
      have q' : (updT s.S i none j).isSome = true := q
      by_cases e : j = i
      · subst e; rw [updT_same] at q'; cases q'
      · rw [updT_ne e] at q'; exact q'
    | _ => trivial
  rw [e]
  refine I.put (s' := { s with js := s.js.filter (fun j => decide (j ≠ i)), S := updT s.S i none }) (l0 := .d) trivial rfl lv (fun l h n => ?_) ?_ ?_ I.cl
  · cases l with
    | p j =>
      have q' : (updT s.S i none j).isSome = true := h
      have e : j ≠ i := fun e => by subst e; rw [updT_same] at q'; cases q'
      have sn : sfOf (updT s.S i none) j = sfOf s.S j := by unfold sfOf; rw [updT_ne e]
      show HO.ins A.Shelf _ (shF (shM j (sfOf (updT s.S i none) j)) _ (cnt (sfOf (updT s.S i none) j).tk)) = _
      rw [sn]; rfl
    | t j =>
      have q' : (updT s.S i none j).isSome = true := h
      have e : j ≠ i := fun e => by subst e; rw [updT_same] at q'; cases q'
      have sn : sfOf (updT s.S i none) j = sfOf s.S j := by unfold sfOf; rw [updT_ne e]
      show HO.lst ((sfOf (updT s.S i none) j).tk.map V.bl) = _
      rw [sn]; rfl
    | d => exact absurd rfl n
    | _ => rfl
  · have e : pgs (updT s.S i none) m.n = (pgs s.S m.n).filter fun j => decide (j ≠ i) := by
      unfold pgs
      rw [List.filter_filter]
      refine List.filter_congr fun j _ => ?_
      by_cases q : j = i
      · subst q; rw [updT_same]; simp
      · rw [updT_ne q]; simp [q]
    show (s.js.filter _).Perm (pgs (updT s.S i none) m.n)
    rw [e]
    exact I.js.filter _
  · intro j w hw
    have hw' : updT s.S i none j = some w := hw
    by_cases q : j = i
    · subst q; rw [updT_same] at hw'; cases hw'
    · rw [updT_ne q] at hw'; exact I.ok j w hw'
theorem foot_drop {i : Nat} {js : List Nat} {bare : List Nat} : ∀ a, foot { s with js := js, bare := bare, S := updT s.S i none } a → foot s a := by
  rintro a ⟨l, hl, e⟩
  refine ⟨l, ?_, e⟩
  cases l with
  | p j =>
    have q' : (updT s.S i none j).isSome = true := hl
    by_cases e : j = i
    · subst e; rw [updT_same] at q'; cases q'
    · rw [updT_ne e] at q'; exact q'
  | t j =>
    have q' : (updT s.S i none j).isSome = true := hl
    by_cases e : j = i
    · subst e; rw [updT_same] at q'; cases q'
    · rw [updT_ne e] at q'; exact q'
  | _ => trivial
/-- a new shelf comes to a page -/
theorem RmI.add {i : Nat} {x : Sf} {p t : Addr} (I : RmI A H pa z m s) (hi : s.S i = none) (hn : i < m.n) (hz : (x.z : Int) ∈ m.sizes) (hl : x.tk.length = m.L / x.z) (np : H p = none) (nt : H t = none) (S : ShAt A H' p t (shM i x)) (k : Same H H') :
    ∃ s' : Hs, RmI A (upd H' (s.ad .d) (.dK (putK (kvR s.ad s.js) (Sum.inl (i : Int)) (.ref p)))) pa z m s' ∧ s'.S = updT s.S i (some x) ∧ s'.cs = s.cs ∧ s'.bare = s.bare ∧ s'.ad .rm = s.ad .rm ∧ s'.ad (.p i) = p ∧
      ∀ a, foot s' a → foot s a ∨ H a = none := by
  obtain ⟨⟨dx, e1⟩, e2⟩ := S
  let ad' : Lb → Addr := fun l => if l = .p i then p else if l = .t i then t else s.ad l
  have a1 : ad' (.p i) = p := if_pos rfl
  have a2 : ad' (.t i) = t := (if_neg (by intro q; cases q)).trans (if_pos rfl)
  have a3 : ∀ l, l ≠ .p i → l ≠ .t i → ad' l = s.ad l := fun l h1 h2 => (if_neg h1).trans (if_neg h2)
  have lv : ∀ l, live (updT s.S i (some x)) l → l = .p i ∨ l = .t i ∨ (live s.S l ∧ l ≠ .p i ∧ l ≠ .t i) := fun l q => by
    cases l with
    | p j =>
      have q' : (updT s.S i (some x) j).isSome = true := q
      by_cases e : j = i
      · exact .inl (by rw [e])
      · rw [updT_ne e] at q'; exact .inr (.inr ⟨q', fun z => e (by injection z), (fun z => nomatch z)⟩)
    | t j =>
      have q' : (updT s.S i (some x) j).isSome = true := q
      by_cases e : j = i
      · exact .inr (.inl (by rw [e]))
      · rw [updT_ne e] at q'; exact .inr (.inr ⟨q', (fun z => nomatch z), fun z => e (by injection z)⟩)
    | rm => exact .inr (.inr ⟨trivial, (fun z => nomatch z), (fun z => nomatch z)⟩)
    | d => exact .inr (.inr ⟨trivial, (fun z => nomatch z), (fun z => nomatch z)⟩)
    | b => exact .inr (.inr ⟨trivial, (fun z => nomatch z), (fun z => nomatch z)⟩)
    | c => exact .inr (.inr ⟨trivial, (fun z => nomatch z), (fun z => nomatch z)⟩)
  have npt : p ≠ t := fun e => by rw [← e, e1] at e2; cases e2
  have old : ∀ l, live s.S l → s.ad l ≠ p ∧ s.ad l ≠ t := fun l h => ⟨(fun e => by have := I.at_ l h; rw [e, np] at this; cases this), (fun e => by have := I.at_ l h; rw [e, nt] at this; cases this)⟩
  have nj : ∀ j, j ∈ s.js → j ≠ i := fun j hj e => by have := I.mem_js.mp hj; rw [e, hi] at this; cases this
  have sx : sfOf (updT s.S i (some x)) i = x := sfOf_at updT_same
  have sn : ∀ j, j ≠ i → sfOf (updT s.S i (some x)) j = sfOf s.S j := fun j e => by unfold sfOf; rw [updT_ne e]
  have ek : putK (kvR s.ad s.js) (Sum.inl (i : Int)) (.ref p) = kvR ad' (s.js ++ [i]) := by
    rw [putK_new _ (by rw [valV_kvR, if_neg (fun q => nj i q rfl)])]
    unfold kvR
    rw [List.map_append]
    congr 1
    · refine List.map_congr_left fun j hj => ?_
      rw [a3 (.p j) (fun q => nj j hj (by injection q)) (fun q => nomatch q)]
    · rw [List.map_singleton, a1]
  have plne : pa ≠ p ∧ pa ≠ t ∧ z ≠ p ∧ z ≠ t := by
    obtain ⟨dxp, h1⟩ := I.pl.ob
    have h2 := I.pl.sz
    exact ⟨(fun e => by rw [e, np] at h1; cases h1), (fun e => by rw [e, nt] at h1; cases h1), (fun e => by rw [e, np] at h2; cases h2), (fun e => by rw [e, nt] at h2; cases h2)⟩
  refine ⟨⟨ad', fun l => if l = .p i then dx else s.dx l, s.js ++ [i], s.bare, updT s.S i (some x), s.cs⟩, ?_, rfl, rfl, rfl, a3 .rm (fun q => nomatch q) (fun q => nomatch q), a1, ?_⟩
  · rw [ek]
    constructor
    · refine I.pl.keep fun b o e h => ?_
      have hd : b ≠ s.ad .d := by
        have := I.npl .d trivial
        rcases h with h | h
        · rw [h]; exact this.1.symm
        · rw [h]; exact this.2.symm
      rw [upd_ne hd]
      exact k _ _ e
    · intro l hl'
      rcases lv l hl' with q | q | ⟨q1, q2, q3⟩
      · subst q
        show upd H' _ _ (ad' (.p i)) = _
        rw [a1, upd_ne (fun q => (old .d trivial).1 q.symm), e1]
        show _ = some (HO.ins A.Shelf (if Lb.p i = Lb.p i then dx else s.dx (.p i)) (shF (shM i (sfOf (updT s.S i (some x)) i)) (ad' (.t i)) (cnt (sfOf (updT s.S i (some x)) i).tk)))
        rw [if_pos rfl, a2, sx]; rfl
      · subst q
        show upd H' _ _ (ad' (.t i)) = _
        rw [a2, upd_ne (fun q => (old .d trivial).2 q.symm), e2]
        show _ = some (HO.lst ((sfOf (updT s.S i (some x)) i).tk.map V.bl))
        rw [sx]; rfl
      · show upd H' _ _ (ad' l) = _
        rw [a3 l q2 q3]
        by_cases ed : l = .d
        · subst ed; rw [upd_same]; rfl
        · rw [upd_ne (I.ne (l' := .d) q1 trivial ed), k _ _ (I.at_ l q1)]
          congr 1
          cases l with
          | d => exact absurd rfl ed
          | rm =>
            show HO.ins _ _ (rmF pa (s.ad .d) (s.ad .b) (s.ad .c)) = HO.ins _ _ (rmF pa (ad' .d) (ad' .b) (ad' .c))
            rw [a3 .d (fun q => nomatch q) (fun q => nomatch q), a3 .b (fun q => nomatch q) (fun q => nomatch q), a3 .c (fun q => nomatch q) (fun q => nomatch q)]
            rfl
          | p j =>
            have nj' : j ≠ i := fun q => q2 (by rw [q])
            show HO.ins A.Shelf (s.dx (.p j)) (shF (shM j (sfOf s.S j)) (s.ad (.t j)) (cnt (sfOf s.S j).tk)) = HO.ins A.Shelf (if Lb.p j = Lb.p i then dx else s.dx (.p j)) (shF (shM j (sfOf (updT s.S i (some x)) j)) (ad' (.t j)) (cnt (sfOf (updT s.S i (some x)) j).tk))
            rw [if_neg q2, sn j nj', a3 (.t j) (fun q => nomatch q) (fun q => nj' (by injection q))]
          | t j =>
            have nj' : j ≠ i := fun q => q3 (by rw [q])
            show HO.lst ((sfOf s.S j).tk.map V.bl) = HO.lst ((sfOf (updT s.S i (some x)) j).tk.map V.bl)
            rw [sn j nj']
          | _ => rfl
    · intro l l' h h' e
      have e' : ad' l = ad' l' := e
      rcases lv l h with q | q | ⟨q1, q2, q3⟩ <;> rcases lv l' h' with r | r | ⟨r1, r2, r3⟩
      · rw [q, r]
      · rw [q, r, a1, a2] at e'; exact absurd e' npt
      · rw [q, a1, a3 l' r2 r3] at e'; exact absurd e'.symm (old l' r1).1
      · rw [q, r, a1, a2] at e'; exact absurd e'.symm npt
      · rw [q, r]
      · rw [q, a2, a3 l' r2 r3] at e'; exact absurd e'.symm (old l' r1).2
      · rw [r, a1, a3 l q2 q3] at e'; exact absurd e' (old l q1).1
      · rw [r, a2, a3 l q2 q3] at e'; exact absurd e' (old l q1).2
      · rw [a3 l q2 q3, a3 l' r2 r3] at e'; exact I.inj l l' q1 r1 e'
    · intro l h
      show ad' l ≠ pa ∧ ad' l ≠ z
      rcases lv l h with q | q | ⟨q1, q2, q3⟩
      · rw [q, a1]; exact ⟨plne.1.symm, plne.2.2.1.symm⟩
      · rw [q, a2]; exact ⟨plne.2.1.symm, plne.2.2.2.symm⟩
      · rw [a3 l q2 q3]; exact I.npl l q1
    · show (s.js ++ [i]).Perm (pgs (updT s.S i (some x)) m.n)
      have hd : (s.js ++ [i]).Nodup := by
        rw [List.nodup_append]
        refine ⟨(I.js.nodup_iff).mpr (nodup_lt (pgs_lt _ _)), by simp, fun a ha b hb => ?_⟩
        rw [List.mem_singleton] at hb
        rw [hb]; exact nj a ha
      refine (List.perm_ext_iff_of_nodup hd (nodup_lt (pgs_lt _ _))).mpr fun j => ?_
      rw [List.mem_append, List.mem_singleton, mem_pgs, I.mem_js]
      by_cases q : j = i
      · subst q; rw [updT_same]; simp [hn]
      · rw [updT_ne q]
        refine ⟨fun h => h.elim (fun h => ⟨?_, h⟩) (fun h => absurd h q), fun h => .inl h.2⟩
        obtain ⟨w, hw⟩ := Option.isSome_iff_exists.mp h
        exact (I.ok j w hw).1
    · intro j w hw
      have hw' : updT s.S i (some x) j = some w := hw
      by_cases q : j = i
      · subst q
        rw [updT_same] at hw'
        obtain rfl := Option.some.inj hw'
        exact ⟨hn, hz, hl⟩
      · rw [updT_ne q] at hw'; exact I.ok j w hw'
    · exact I.cl
  · rintro a ⟨l, h, e⟩
    have e' : ad' l = a := e
    rcases lv l h with q | q | ⟨q1, q2, q3⟩
    · rw [q, a1] at e'; rw [← e']; exact .inr np
    · rw [q, a2] at e'; rw [← e']; exact .inr nt
    · rw [a3 l q2 q3] at e'; exact .inl ⟨l, q1, e'⟩
end
end Sb
namespace Sb
open PySem PySem.Spec PyProof.Rows L2
theorem nV_at {l : List Nat} {i : Nat} {x : V} (h : (nV l)[i]? = some x) : ∃ k, l[i]? = some k ∧ x = .int (k : Nat) := by
  rw [List.getElem?_map] at h
  cases e : l[i]? with
  | none => rw [e] at h; cases h
  | some k => rw [e] at h; exact ⟨k, rfl, (Option.some.inj h).symm⟩
theorem take_at {α : Type} {l : List α} {i : Nat} {x : α} (h : l[i]? = some x) : l.take (i + 1) = l.take i ++ [x] := by rw [List.take_succ, h]; rfl
theorem pgs_at {S : Tb} {n i k : Nat} (h : (pgs S n)[i]? = some k) : ∃ x, S k = some x := Option.isSome_iff_exists.mp (mem_pgs.mp (List.mem_of_getElem? h)).2
theorem emps_pgs (S : Tb) (n : Nat) : (pgs S n).filter (isEmp S) = emps S n := by
  unfold pgs emps
  rw [List.filter_filter]
  refine List.filter_congr fun i _ => ?_
  unfold isEmp
  cases S i <;> simp
theorem isEmp_at {S : Tb} {i : Nat} {x : Sf} (h : S i = some x) : isEmp S i = decide (cnt x.tk = 0) := by unfold isEmp; rw [h]
theorem sm_new {H H' : Hp} {q : Addr} {o : HO} (h : Same H H') (n : H q = none) : Same H (upd H' q o) := fun b u e => by rw [upd_ne (ne_of_none e n)]; exact h b u e
theorem sm_n {H : Hp} {q : Addr} {o : HO} (n : H q = none) : Same H (upd H q o) := fun b u e => by rw [upd_ne (ne_of_none e n)]; exact e
theorem plen (m : PlM) (h : m.Ok) : m.n ≤ 40 := by have := h.p2; show m.pages.toNat ≤ 40; omega
theorem erase_cast : ∀ (l : List Nat) (j : Nat), (castI l).eraseIdx j = castI (l.eraseIdx j)
  | [], j => by simp
  | a :: r, 0 => by simp
  | a :: r, j + 1 => by
    have ih := erase_cast r j
    simp [ih]
theorem perm_erase : ∀ {l : List Nat} {j : Nat} (h : j < l.length), (l[j] :: l.eraseIdx j).Perm l
  | a :: r, 0, _ => by simp
  | a :: r, j + 1, h => by
    have ih := perm_erase (l := r) (j := j) (by simpa using h)
    simp only [List.getElem_cons_succ, List.eraseIdx_cons_succ]
    exact (List.Perm.swap _ _ _).trans (ih.cons a)
theorem bare_drop {S : Tb} {n i : Nat} {bare : List Nat} (hb : bare.Perm (nones S n)) (hi : (S i).isSome = true) (hl : ∀ x, S i = some x → i < n) : (bare ++ [i]).Perm (nones (updT S i none) n) := by
  have nd : (bare ++ [i]).Nodup := by
    rw [List.nodup_append]
    refine ⟨hb.nodup_iff.mpr (nodup_lt (nones_lt _ _)), by simp, fun a ha b hb' => ?_⟩
    rw [List.mem_singleton] at hb'
    intro e
    have := (mem_nones.mp (hb.mem_iff.mp ha)).2
    rw [e, hb'] at this
    rw [Option.isNone_iff_eq_none] at this
    rw [this] at hi
    cases hi
  refine (List.perm_ext_iff_of_nodup nd (nodup_lt (nones_lt _ _))).mpr fun j => ?_
  rw [List.mem_append, List.mem_singleton, hb.mem_iff, mem_nones, mem_nones]
  obtain ⟨x, hx⟩ := Option.isSome_iff_exists.mp hi
  by_cases q : j = i
  · subst q; rw [updT_same]; simp [hl x hx]
  · rw [updT_ne q]; simp [q]
def sp_Room_empties (K : PySem.W.Frag) (A : Ad) : Sp := fun vs H Q _ => ∃ (pa z : Addr) (m : PlM) (s : Hs), vs = [.ref (s.ad .rm)] ∧ RmI A H pa z m s ∧
  ∀ q H', H q = none → H' q = some (.lst (nV (emps s.S m.n))) → Same H H' → Q (.ref q) H'
def sp_Room_give_page (K : PySem.W.Frag) (A : Ad) : Sp := fun vs H Q _ => ∃ (pa z : Addr) (m : PlM) (s : Hs) (i : Nat), vs = [.ref (s.ad .rm), .int (i : Nat)] ∧ RmI A H pa z m s ∧ s.bare.Perm (nones s.S m.n) ∧ (s.S i).isSome = true ∧
  ∀ s' H', RmI A H' pa z m s' → s'.bare.Perm (nones s'.S m.n) → s'.S = updT s.S i none → s'.cs = s.cs → s'.ad = s.ad → Stp (foot s) H (foot s') H' → Q .non H'
def sp_Room_fresh_page (K : PySem.W.Frag) (A : Ad) : Sp := fun vs H Q E => ∃ (pa z : Addr) (m : PlM) (s : Hs), vs = [.ref (s.ad .rm)] ∧ RmI A H pa z m s ∧ s.bare.Perm (nones s.S m.n) ∧
  (fresh s.S m.n = none → ∀ H', Same H H' → E (.ref A.NoRoom) none H') ∧
  ∀ i S' s' H', fresh s.S m.n = some (i, S') → RmI A H' pa z m s' → (i :: s'.bare).Perm (nones s'.S m.n) → s'.S = S' → s'.cs = s.cs → s'.ad = s.ad → Stp (foot s) H (foot s') H' → Q (.int (i : Nat)) H'
section
variable {P : Program} {w : World} {K : PySem.W.Frag} {mg : Str → Option Value} {base : Heap} {A : Ad}
theorem ok_Room_empties (T : Tx K mg A) : Mf P w K mg base 2 A.Room "empties" ["self"] (sp_Room_empties K A) := by
  refine Dm.ok T.d_Room_empties sc_Room_empties bi_Room_empties (fun vs H Q E h => ?_) (fun f cdv Ar outer s H vs Q E hr h => ?_)
  · obtain ⟨pa, z, m, s, rfl, _⟩ := h; rfl
  · obtain ⟨pa, z, m, s, rfl, I, k⟩ := h
    refine ⟨_, (pss_one (ps_ret (pe_lc (own := [("page", 1)]) (g := gName 1) (tt := (tTest (tOp rEq (tMeth A.Shelf "out" (sp_Shelf_out K A) [] E0 (tDGet (tFld K (tVar 0) "rows") (tVar 1)) tNil) (tC (.int 0))))) (te := (tVar 1)) rfl sc_Room_empties.nd (pi_list (pe_callB (call_sortedDI rfl) (by rfl) T.z_sorted (by decide +kernel) (pa_cons (pe_fld (pv 0) rfl) pa_nil))) (blkOk_by (own := [("page", 1)]) (N := ["self", "page"]) (sc := defScope s_Room_empties) (by decide +kernel)) (fun _ _ _ _ _ => pg_name (i := 1) sc_Room_empties.nd rfl (Or.inl rfl)) (fun _ _ _ _ _ => pts_one (pt_cmpR op_eq (pe_mf0 (ok_Shelf_out T) T.c_Shelf hr (by decide) (pe_dget (hu_of hr) (pe_fld (pv 0) rfl) (pv 1) (fun _ _ => rfl))) pe_int (nomark _))) (fun _ _ _ _ _ => (pv 1))))), ?_⟩
    obtain ⟨g1, g2, g3⟩ := I.keysD I.pl.ok
    refine ⟨_, rfl, I.fRows T ⟨_, _, _, rfl, .inl I.d, g1, g2, fun ys p h1 h2 hp => ?_⟩⟩
    obtain rfl := g3 ys h1 h2
    rw [castI_V]
    refine ⟨p, rfl, ⟨_, SqL.of upd_same⟩, fun D hD => ?_⟩
    have hD0 : H D = none := by rw [upd_ne (fun e => by rw [e, upd_same] at hD; cases hD)] at hD; exact hD
    have npD : p ≠ D := fun e => by rw [e, upd_same] at hD; cases hD
    refine lc_list (K := K) (a := p) (xs := nV (pgs s.S m.n)) (fun i H' => Same H H' ∧ H' p = some (.lst (nV (pgs s.S m.n))) ∧ H' D = some (.lst (nV (((pgs s.S m.n).take i).filter (isEmp s.S))))) ⟨?_, ?_, upd_same⟩ (fun i H' _ h => SqL.of h.2.1) ?_ ?_
    · exact sm_new (sm_n hp) hD0
    · rw [upd_ne npD]; exact upd_same
    · rintro i x H' hx ⟨sm, e1, e2⟩
      obtain ⟨k, hk, rfl⟩ := nV_at hx
      obtain ⟨y, hy⟩ := pgs_at hk
      have I' := I.same sm
      have S' := I'.sh hy
      obtain ⟨dx, ho⟩ := S'.ob
      refine ⟨rfl, ?_⟩
      refine ⟨_, rfl, I'.fRows T ⟨_, rfl, _, _, rfl, I'.dget hy, _, dx, _, rfl, ho, shF_no_out _ _ _, _, _, _, rfl, S', rfl, _, rfl, ?_⟩⟩
      have et := take_at hk
      have ee := isEmp_at hy
      refine iteD (fun h => ?_) (fun h => ?_)
      · have h0 : cnt y.tk = 0 := by injection h with h; exact Int.natCast_eq_zero.mp h
        refine ⟨_, rfl, _, e2, ?_, sm_new sm hD0, ?_, ?_⟩
        · rw [List.length_map]
          refine Nat.lt_of_le_of_lt (List.length_filter_le _ _) ?_
          rw [List.length_take]
          exact Nat.lt_of_le_of_lt (Nat.le_trans (Nat.min_le_right _ _) (Nat.le_trans (pgs_len _ _) (plen m I.pl.ok))) (by decide)
        · rw [upd_ne npD]; exact e1
        · rw [upd_same, et, List.filter_append]
          have : List.filter (isEmp s.S) [k] = [k] := by simp [List.filter, ee, h0]
          rw [this]
          simp
      · have h0 : ¬ cnt y.tk = 0 := fun e => h (by show V.int ((cnt y.tk : Nat) : Int) = V.int 0; rw [e]; rfl)
        refine ⟨sm, e1, ?_⟩
        rw [e2, et, List.filter_append]
        have : List.filter (isEmp s.S) [k] = [] := by simp [List.filter, ee, h0]
        rw [this, List.append_nil]
    · rintro H' ⟨sm, e1, e2⟩
      refine k D H' hD0 ?_ sm
      have el : (nV (pgs s.S m.n)).length = (pgs s.S m.n).length := List.length_map _
      rw [e2, el, List.take_length, emps_pgs]
theorem ok_Room_give_page (T : Tx K mg A) : Mf P w K mg base 1 A.Room "give_page" ["self", "page"] (sp_Room_give_page K A) := by
  refine Dm.ok T.d_Room_give_page sc_Room_give_page bi_Room_give_page (fun vs H Q E h => ?_) (fun f cdv Ar outer s H vs Q E hr h => ?_)
  · obtain ⟨pa, z, m, s, i, rfl, _⟩ := h; rfl
  · obtain ⟨pa, z, m, s, i, rfl, I, hb, hi, k⟩ := h
    refine ⟨_, (pss_cons (ps_expr (pe_dpop1 (pe_fld (pv 0) rfl) (pv 1) ⟨by rfl, by rfl, by rfl, by rfl⟩))
    (pss_one (ps_expr (pe_bm PySem.F.plainAttrs_list PySem.F.slot_list_append PySem.F.type_list_append mt_append (pe_fld (pv 0) rfl) (pa_cons (pv 1) pa_nil))))), ?_⟩
    obtain ⟨x, hx⟩ := Option.isSome_iff_exists.mp hi
    have ev : valV (kvR s.ad s.js) (Sum.inl (i : Int)) = some (V.ref (s.ad (.p i))) := by rw [valV_kvR, if_pos (I.mem_js.mpr hi)]
    refine ⟨_, rfl, I.fRows T ⟨_, rfl, .inl ⟨_, .inl I.d⟩, _, rfl, _, _, _, I.d, rfl, ev, ?_⟩⟩
    have I1 := I.drop (i := i)
    have lb : s.bare.length ≤ 40 := by
      rw [hb.length_eq]
      exact Nat.le_trans (nones_len _ _) (plen m I.pl.ok)
    refine ⟨_, rfl, I1.fBare T ⟨.inl ⟨rfl, _, SqL.of I1.b⟩, _, rfl, _, _, _, rfl, rfl, I1.b, ?_, ?_⟩⟩
    · rw [List.length_map]; exact Nat.lt_of_le_of_lt lb (by decide)
    have I2 := I1.putBare (bare := s.bare ++ [i])
    have e2 : nV (s.bare ++ [i]) = nV s.bare ++ [V.int (i : Nat)] := List.map_append
    rw [e2] at I2
    refine k _ _ I2 ?_ rfl rfl rfl (Stp.trans ?_ (Stp.put (s := { s with js := s.js.filter (fun j => decide (j ≠ i)), S := updT s.S i none }) (l0 := .b) trivial))
    · exact bare_drop hb hi fun x hx => (I.ok i x hx).1
    · refine ⟨(Stp.put (l0 := .d) trivial).1, fun a q => .inl (foot_drop (bare := s.bare) a q)⟩
theorem ok_Room_fresh_page (T : Tx K mg A) : Mf P w K mg base 3 A.Room "fresh_page" ["self"] (sp_Room_fresh_page K A) := by
  refine Dm.ok T.d_Room_fresh_page sc_Room_fresh_page bi_Room_fresh_page (fun vs H Q E h => ?_) (fun f cdv Ar outer s H vs Q E hr h => ?_)
  · obtain ⟨pa, z, m, s, rfl, _⟩ := h; rfl
  · obtain ⟨pa, z, m, s, rfl, I, hb, kN, k⟩ := h
    refine ⟨_, (Evl.pss_cut (ps_if (pt_cmpR (op_eqD hr.units) (pe_fld (pv 0) rfl) (pe_lst pa_nil) (nomark _)) (pss_cons (ps_set (i := 1) sc_Room_fresh_page.nd rfl (Or.inl rfl) (pe_mf0 (ok_Room_empties T) T.c_Room hr (by decide) (pv 0)))
    (pss_cons (ps_if (pt_cmpR (op_eqD hr.units) (pv 1) (pe_lst pa_nil) (nomark _)) (pss_one (ps_err rfl T.e_NoRoom (by rfl) (takes_of rfl rfl rfl rfl)))
    pss_nil)
    (pss_one (ps_expr (pe_mf (ok_Room_give_page T) T.c_Room hr (by decide) (pv 0) (pa_cons (pe_ix ix_list (pv 1) pe_int (fun _ _ => rfl)) pa_nil))))))
    pss_nil)
    (pss_cons (ps_set (i := 2) sc_Room_fresh_page.nd rfl (Or.inl rfl) (pe_callB (cr_min rfl) (by rfl) T.z_min (by decide +kernel) (pa_cons (pe_fld (pv 0) rfl) pa_nil)))
    (pss_cons (ps_expr (pe_bm PySem.F.plainAttrs_list PySem.F.slot_list_remove PySem.F.type_list_remove mt_remove (pe_fld (pv 0) rfl) (pa_cons (pv 2) pa_nil)))
    (pss_one (ps_ret (pv 2)))))), ?_⟩
    refine ⟨fun σ H' => ∃ (v : Option V) (s1 : Hs) (i : Nat), σ = [some (.ref (s.ad .rm)), v, none] ∧ RmI A H' pa z m s1 ∧ s1.bare.Perm (nones s1.S m.n) ∧ s1.ad = s.ad ∧ s1.cs = s.cs ∧ fresh s.S m.n = some (i, s1.S) ∧ i ∈ s1.bare ∧ (∀ j ∈ s1.bare, i ≤ j) ∧ Stp (foot s) H (foot s1) H', ?_, ?_⟩
    · have eb : H (s.ad .b) = some (.lst ((castI s.bare).map V.int)) := by rw [castI_V]; exact I.b
      refine ⟨_, rfl, I.fBare T ⟨(by decide), fun e he => ?_⟩⟩
      have ne : s.ad .b ≠ e := fun z => by rw [z, he] at eb; cases eb
      refine ⟨_, _, dp_ints (SqL.of (by rw [upd_ne ne]; exact eb)), dp_ints (l := []) (SqL.of upd_same), (sh_ints _).shaped (by decide), (sh_ints _).shaped (by decide), _, rfl, ?_⟩
      rw [eqv_nil]
      have I1 : RmI A (upd H e (.lst [])) pa z m s := I.same (sm_n he)
      refine iteD (fun hn => ?_) (fun hn => ?_)
      · have hb0 : s.bare = [] := List.map_eq_nil_iff.mp hn
        have hn0 : nones s.S m.n = [] := by rw [hb0] at hb; exact (List.nil_perm.mp hb)
        -- pages = self.empties()
        refine ⟨_, rfl, _, _, _, rfl, I1.rm, rmF_no (by decide) _ _ _ _, pa, z, m, s, rfl, I1, fun q H1 hq h1 sm => ?_⟩
        have I2 := I1.same sm
        have h1' : H1 q = some (.lst ((castI (emps s.S m.n)).map V.int)) := by rw [castI_V]; exact h1
        refine ⟨_, rfl, (by decide), fun e' he' => ?_⟩
        have ne' : q ≠ e' := fun z => by rw [z, he'] at h1; cases h1
        refine ⟨_, _, dp_ints (SqL.of (by rw [upd_ne ne']; exact h1')), dp_ints (l := []) (SqL.of upd_same), (sh_ints _).shaped (by decide), (sh_ints _).shaped (by decide), _, rfl, ?_⟩
        rw [eqv_nil]
        have sA : Same H (upd H1 e' (.lst [])) := fun b o eb => sm_n he' _ _ (sm _ _ (sm_n he _ _ eb))
        have I3 : RmI A (upd H1 e' (.lst [])) pa z m s := I2.same (sm_n he')
        refine iteD (fun hm => ?_) (fun hm => ?_)
        · have em : emps s.S m.n = [] := List.map_eq_nil_iff.mp hm
          refine kN ?_ _ sA
          unfold fresh
          rw [hn0, em]
        · have em : emps s.S m.n ≠ [] := fun q => hm (by rw [q]; rfl)
          obtain ⟨i, r, er⟩ := List.exists_cons_of_ne_nil em
          have ef : fresh s.S m.n = some (i, updT s.S i none) := by unfold fresh; rw [hn0, er]
          have hi : isEmp s.S i = true := (mem_emps.mp (by rw [er]; exact List.mem_cons_self)).2
          have his : (s.S i).isSome = true := by
            unfold isEmp at hi
            cases e : s.S i with
            | none => rw [e] at hi; cases hi
            | some x => rfl
          refine ⟨_, rfl, _, _, _, rfl, I3.rm, rmF_no (by decide) _ _ _ _, ?_⟩
          refine ⟨_, rfl, q, _, _, .int (i : Nat), rfl, rfl, SqL.of (by rw [upd_ne ne']; exact h1), at_of (j := 0) (by decide) (by rw [er]; rfl), ?_⟩
          refine ⟨pa, z, m, s, i, rfl, I3, hb, his, fun s' H' J hb' eS eC eA st => ?_⟩
          have il : i < m.n := by
            obtain ⟨x, hx⟩ := Option.isSome_iff_exists.mp his
            exact (I.ok i x hx).1
          have mb : ∀ j, j ∈ s'.bare ↔ j = i := fun j => by
            rw [hb'.mem_iff, mem_nones, eS]
            refine ⟨fun h => ?_, fun h => ?_⟩
            · by_cases q : j = i
              · exact q
              · rw [updT_ne q] at h
                have : j ∈ nones s.S m.n := mem_nones.mpr h
                rw [hn0] at this
                cases this
            · rw [h, updT_same]; exact ⟨il, rfl⟩
          refine ⟨_, s', i, rfl, J, hb', eA, eC, by rw [ef, eS], (mb i).mpr rfl, fun j hj => by rw [(mb j).mp hj]; exact Nat.le_refl _, Stp.trans (Stp.same sA) st⟩
      · have hn0 : nones s.S m.n ≠ [] := fun q => hn (by rw [q] at hb; rw [List.perm_nil.mp hb]; rfl)
        obtain ⟨i, r, er⟩ := List.exists_cons_of_ne_nil hn0
        have ef : fresh s.S m.n = some (i, s.S) := by unfold fresh; rw [er]
        refine ⟨none, s, i, rfl, I1, hb, rfl, rfl, ef, hb.mem_iff.mpr (by rw [er]; exact List.mem_cons_self), fun j hj => ?_, Stp.same (sm_n he)⟩
        have hj' := hb.mem_iff.mp hj
        have hp := nones_lt s.S m.n
        rw [er] at hj' hp
        rcases List.mem_cons.mp hj' with q | q
        · rw [q]; exact Nat.le_refl _
        · exact Nat.le_of_lt ((List.pairwise_cons.mp hp).1 j q)
    · rintro σ H' ⟨v, s1, i, rfl, I1, hb1, eA, eC, ef, hi, hmin, st⟩
      have eb : H' (s1.ad .b) = some (.lst ((castI s1.bare).map V.int)) := by rw [castI_V]; exact I1.b
      have lb : 0 < (castI s1.bare).length := by rw [List.length_map]; exact List.length_pos_of_mem hi
      have erm : s.ad .rm = s1.ad .rm := by rw [eA]
      rw [erm]
      refine ⟨_, rfl, I1.fBare T ⟨_, _, rfl, SqL.of eb, lb, fun y hy hle => ?_⟩⟩
      have ey : y = (i : Int) := by
        obtain ⟨j, hj, rfl⟩ := List.mem_map.mp hy
        have h1 := hmin j hj
        have h2 := hle (i : Int) (List.mem_map.mpr ⟨i, hi, rfl⟩)
        omega
      subst ey
      obtain ⟨j, hj, hij⟩ := List.getElem_of_mem hi
      have nd : s1.bare.Nodup := hb1.nodup_iff.mpr (nodup_lt (nones_lt _ _))
      refine ⟨_, rfl, I1.fBare T ⟨.inl ⟨rfl, _, SqL.of eb⟩, _, rfl, _, castI s1.bare, (i : Int), j, rfl, rfl, eb, ?_, fun q hq e => ?_, ?_⟩⟩
      · rw [List.getElem?_map, List.getElem?_eq_getElem hj, hij]; rfl
      · rw [List.getElem?_map, List.getElem?_eq_getElem (Nat.lt_trans hq hj)] at e
        have e1 : ((s1.bare[q] : Nat) : Int) = (i : Int) := Option.some.inj e
        have e' : s1.bare[q] = i := by omega
        have := (List.nodup_iff_pairwise_ne.mp nd)
        exact absurd (e'.trans hij.symm) (List.pairwise_iff_getElem.mp this q j (Nat.lt_trans hq hj) hj hq)
      have ee : ((castI s1.bare).eraseIdx j).map V.int = nV (s1.bare.eraseIdx j) := by
        rw [← castI_V]
        congr 1
        exact erase_cast _ _
      rw [ee]
      have I2 := I1.putBare (bare := s1.bare.eraseIdx j)
      refine ⟨_, rfl, k i s1.S _ _ ef I2 ?_ rfl eC eA (Stp.trans st (Stp.put (l0 := .b) trivial))⟩
      have := perm_erase hj
      rw [hij] at this
      exact this.trans hb1
end
end Sb
namespace Sb
open PySem PySem.Spec PyProof.Rows L2
theorem PlM.Ok.eL {m : PlM} (h : m.Ok) : m.length = (m.L : Int) := by have := h.l1; show m.length = (m.length.toNat : Int); omega
theorem PlM.Ok.en {m : PlM} (h : m.Ok) : m.pages = (m.n : Int) := by have := h.p1; show m.pages = (m.pages.toNat : Int); omega
theorem PlM.Ok.L60 {m : PlM} (h : m.Ok) : m.L ≤ 60 := by have := h.l2; show m.length.toNat ≤ 60; omega
theorem PlM.Ok.L1 {m : PlM} (h : m.Ok) : 1 ≤ m.L := by have := h.l1; show 1 ≤ m.length.toNat; omega
theorem PlM.Ok.n1 {m : PlM} (h : m.Ok) : 1 ≤ m.n := by have := h.p1; show 1 ≤ m.pages.toNat; omega
theorem PlM.Ok.zr {m : PlM} (h : m.Ok) {k : Nat} (hk : (k : Int) ∈ m.sizes) : 1 ≤ k ∧ k ≤ m.L := by have := h.rng _ hk; have := h.eL; omega
theorem per_cast {m : PlM} (h : m.Ok) (k : Nat) : m.length / (k : Int) = ((m.L / k : Nat) : Int) := by rw [h.eL]; exact (Int.natCast_ediv _ _).symm
/-- the room's place of a slot -/
def plc (m : PlM) (i j : Nat) (x : Sf) : Nat := i * m.L + j * x.z
/-- the best, so far, is a shelf with a free slot -/
def PickOk (S : Tb) (z : Nat) (b : Option Nat) : Prop := ∀ j, b = some j → ∃ x, S j = some x ∧ x.z = z ∧ cnt x.tk < x.tk.length
theorem pickStep_ok {S : Tb} {z i : Nat} {b : Option Nat} (h : PickOk S z b) : PickOk S z (pickStep S z b i) := by
  intro j hj
  unfold pickStep at hj
  cases e : S i with
  | none => rw [e] at hj; exact h j hj
  | some x =>
    rw [e] at hj
    dsimp only at hj
    split at hj
    · rename_i q
      cases hj
      exact ⟨x, e, q.1, q.2.1⟩
    · exact h j hj
theorem foldl_snoc' {α β : Type} (f : β → α → β) (b : β) (l : List α) (x : α) : (l ++ [x]).foldl f b = f (l.foldl f b) x := by rw [List.foldl_append]; rfl
theorem pickFold_ok {S : Tb} {z : Nat} : ∀ (l : List Nat) {b : Option Nat}, PickOk S z b → PickOk S z (l.foldl (pickStep S z) b)
  | [], _, h => h
  | i :: l, _, h => pickFold_ok l (pickStep_ok h)
theorem pick_ok {S : Tb} {n z i : Nat} (h : pick S n z = some i) : ∃ x, S i = some x ∧ x.z = z ∧ cnt x.tk < x.tk.length := pickFold_ok (pgs S n) (b := none) (fun _ h => nomatch h) i h
def bestV (ad : Lb → Addr) : Option Nat → V
  | none => .non
  | some j => .ref (ad (.p j))
def sp_Room_place_of (K : PySem.W.Frag) (A : Ad) : Sp := fun vs H Q _ => ∃ (pa z : Addr) (m : PlM) (s : Hs) (i j : Nat) (x : Sf), vs = [.ref (s.ad .rm), .ref (s.ad (.p i)), .int (j : Nat)] ∧ RmI A H pa z m s ∧ s.S i = some x ∧ Q (.int (plc m i j x : Nat)) H
def sp_Room_shelf_for (K : PySem.W.Frag) (A : Ad) : Sp := fun vs H Q E => ∃ (pa z : Addr) (m : PlM) (s : Hs) (k : Nat), vs = [.ref (s.ad .rm), .int (k : Nat)] ∧ RmI A H pa z m s ∧ s.bare.Perm (nones s.S m.n) ∧ (k : Int) ∈ m.sizes ∧
  (shelfFor s.S m.n k (m.L / k) = none → ∀ H', Same H H' → E (.ref A.NoRoom) none H') ∧
  ∀ i S' s' H', shelfFor s.S m.n k (m.L / k) = some (i, S') → RmI A H' pa z m s' → s'.bare.Perm (nones s'.S m.n) → s'.S = S' → s'.cs = s.cs → s'.ad .rm = s.ad .rm → Stp (foot s) H (foot s') H' → Q (.ref (s'.ad (.p i))) H'
section
variable {P : Program} {w : World} {K : PySem.W.Frag} {mg : Str → Option Value} {base : Heap} {A : Ad}
theorem ok_Room_place_of (T : Tx K mg A) : Mf P w K mg base 1 A.Room "place_of" ["self", "shelf", "slot"] (sp_Room_place_of K A) := by
  refine Dm.ok T.d_Room_place_of sc_Room_place_of bi_Room_place_of (fun vs H Q E h => ?_) (fun f cdv Ar outer s H vs Q E hr h => ?_)
  · obtain ⟨pa, z, m, s, i, j, x, rfl, _⟩ := h; rfl
  · obtain ⟨pa, z, m, s, i, j, x, rfl, I, hx, k⟩ := h
    refine ⟨_, (pss_one (ps_ret (pe_op op_add (pe_op op_mul (pe_fld (pv 1) rfl) (pe_fld (pe_fld (pv 0) rfl) rfl)) (pe_op op_mul (pv 2) (pe_fld (pv 1) rfl))))), ?_⟩
    have S := I.sh hx
    obtain ⟨h1, h2, _⟩ := I.ok i x hx
    have := plen m I.pl.ok
    have hz := I.pl.ok.zr h2
    have := I.pl.ok.L60
    refine ⟨_, rfl, S.fPage T ⟨_, rfl, I.fPlan T (I.pl.fLength T ⟨_, _, rfl, rfl, .inl ⟨?_, ?_⟩, ?_⟩)⟩⟩
    · show -(2 ^ 64) < ((i : Nat) : Int); omega
    · show ((i : Nat) : Int) < 2 ^ 64; omega
    refine ⟨_, rfl, _, rfl, S.fSize T ⟨_, _, rfl, rfl, .inr ⟨?_, ?_⟩, _, _, rfl, rfl, ?_⟩⟩
    · show -(2 ^ 64) < ((x.z : Nat) : Int); omega
    · show ((x.z : Nat) : Int) < 2 ^ 64; omega
    have e : ((i : Nat) : Int) * m.length + (j : Nat) * (x.z : Nat) = ((plc m i j x : Nat) : Int) := by
      rw [I.pl.ok.eL]; unfold plc; simp
    show Q (V.int (((i : Nat) : Int) * m.length + (j : Nat) * (x.z : Nat))) H
    rw [e]
    exact k
theorem ok_Room_shelf_for (T : Tx K mg A) : Mf P w K mg base 4 A.Room "shelf_for" ["self", "size"] (sp_Room_shelf_for K A) := by
  refine Dm.ok T.d_Room_shelf_for sc_Room_shelf_for bi_Room_shelf_for (fun vs H Q E h => ?_) (fun f cdv Ar outer s H vs Q E hr h => ?_)
  · obtain ⟨pa, z, m, s, k, rfl, _⟩ := h; rfl
  · obtain ⟨pa, z, m, s, k, rfl, I, hb, hk, kN, kQ⟩ := h
    refine ⟨_, (pss_cons (ps_set (i := 2) sc_Room_shelf_for.nd rfl (Or.inl rfl) pe_non)
    (pss_cons (ps_for (passes_of rfl) rfl (pi_list (pe_callB (call_sortedDI rfl) (by rfl) T.z_sorted (by decide +kernel) (pa_cons (pe_fld (pv 0) rfl) pa_nil))) (pg_name (i := 3) sc_Room_shelf_for.nd rfl (Or.inl rfl))
    (pss_cons (ps_set (i := 4) sc_Room_shelf_for.nd rfl (Or.inl rfl) (pe_dget (hu_of hr) (pe_fld (pv 0) rfl) (pv 3) (fun _ _ => rfl)))
    (pss_one (ps_if (PW.pt (pw_and (pt_cmpR op_eq (pe_fld (pv 4) rfl) (pv 1) (nomark _)) (pw_and (pt_val (pe_mf0 (ok_Shelf_has_free T) T.c_Shelf hr (by decide) (pv 4))) (pw_and1 (PW.pt (pw_or (pt_cmpR op_isN (pv 2) pe_non (nomark _)) (pw_or1 (pt_cmpR op_gt (pe_mf0 (ok_Shelf_out T) T.c_Shelf hr (by decide) (pv 4)) (pe_mf0 (ok_Shelf_out T) T.c_Shelf hr (by decide) (pv 2)) (nomark _))))))))) (pss_one (ps_set (i := 2) sc_Room_shelf_for.nd rfl (Or.inl rfl) (pv 4)))
    pss_nil))))
    (pss_cons (ps_if (pt_cmpR op_isN (pv 2) pe_non (nomark _)) (pss_cons (ps_set (i := 3) sc_Room_shelf_for.nd rfl (Or.inl rfl) (pe_mfS0 (ok_Room_fresh_page T) T.c_Room hr (by decide) (takes_of rfl rfl rfl rfl) (pv 0)))
    (pss_cons (ps_set (i := 2) sc_Room_shelf_for.nd rfl (Or.inl rfl) (pe_if (ok_Shelf_init T) T.g_Shelf hr (by decide) (by rfl) (pa_cons (pv 3) (pa_cons (pv 1) (pa_cons (pe_mfS (ok_Plan_per T) T.c_Plan hr (by decide) (takes_of rfl rfl rfl rfl) (pe_fld (pv 0) rfl) (pa_cons (pv 1) pa_nil)) pa_nil)))))
    (pss_one (ps_dput (hu_of hr) (pe_fld (pv 0) rfl) (pv 3) (pv 2) rfl))))
    pss_nil)
    (pss_one (ps_ret (pv 2)))))), ?_⟩
    obtain ⟨g1, g2, g3⟩ := I.keysD I.pl.ok
    refine ⟨_, rfl, I.fRows T ⟨_, _, _, rfl, .inl I.d, g1, g2, fun ys p h1 h2 hp => ?_⟩⟩
    obtain rfl := g3 ys h1 h2
    rw [castI_V]
    refine ⟨p, rfl, ⟨_, SqL.of upd_same⟩, for_list (K := K) (a := p) (xs := nV (pgs s.S m.n)) (fun i σ H' => Same H H' ∧ H' p = some (.lst (nV (pgs s.S m.n))) ∧
      ∃ v3 v4, σ = [some (.ref (s.ad .rm)), some (.int (k : Nat)), some (bestV s.ad (((pgs s.S m.n).take i).foldl (pickStep s.S k) none)), v3, v4]) ⟨sm_n hp, upd_same, _, _, rfl⟩ (fun i σ H' _ h => SqL.of h.2.1) ?_ ?_⟩
    · rintro i x σ H' hx ⟨sm, e1, v3, v4, rfl⟩
      obtain ⟨q, hq, rfl⟩ := nV_at hx
      obtain ⟨y, hy⟩ := pgs_at hq
      have I' := I.same sm
      have S' := I'.sh hy
      obtain ⟨dx, ho⟩ := S'.ob
      have et := take_at hq
      have ep : ((pgs s.S m.n).take (i + 1)).foldl (pickStep s.S k) none = pickStep s.S k (((pgs s.S m.n).take i).foldl (pickStep s.S k) none) q := by rw [et, foldl_snoc']
      have pk : PickOk s.S k (((pgs s.S m.n).take i).foldl (pickStep s.S k) none) := pickFold_ok _ (fun _ h => nomatch h)
      generalize ((pgs s.S m.n).take i).foldl (pickStep s.S k) none = b at ep pk
      refine ⟨_, rfl, I'.fRows T ⟨_, rfl, _, _, rfl, I'.dget hy, ?_⟩⟩
      refine ⟨_, rfl, S'.fSize T ⟨_, rfl, rfl, _, rfl, ?_⟩⟩
      have no : ∀ {c : Prop}, ¬ (y.z = k ∧ cnt y.tk < y.tk.length ∧ better s.S b (cnt y.tk) = true) → pickStep s.S k b q = b := fun h => by
        unfold pickStep; rw [hy]; exact if_neg h
      have fin : ¬ (y.z = k ∧ cnt y.tk < y.tk.length ∧ better s.S b (cnt y.tk) = true) → Same H H' ∧ H' p = some (.lst (nV (pgs s.S m.n))) ∧
          ∃ v3 v4, [some (V.ref (s.ad .rm)), some (.int (k : Nat)), some (bestV s.ad b), some (V.int (q : Nat)), some (.ref (s.ad (.p q)))] = [some (.ref (s.ad .rm)), some (.int (k : Nat)), some (bestV s.ad (((pgs s.S m.n).take (i + 1)).foldl (pickStep s.S k) none)), v3, v4] := fun h => by
        have e2 : pickStep s.S k b q = b := by unfold pickStep; rw [hy]; exact if_neg h
        exact ⟨sm, e1, _, _, by rw [ep, e2]⟩
      have yes : y.z = k → cnt y.tk < y.tk.length → better s.S b (cnt y.tk) = true → Same H H' ∧ H' p = some (.lst (nV (pgs s.S m.n))) ∧
          ∃ v3 v4, [some (V.ref (s.ad .rm)), some (.int (k : Nat)), some (.ref (s.ad (.p q))), some (V.int (q : Nat)), some (.ref (s.ad (.p q)))] = [some (.ref (s.ad .rm)), some (.int (k : Nat)), some (bestV s.ad (((pgs s.S m.n).take (i + 1)).foldl (pickStep s.S k) none)), v3, v4] := fun h1 h2 h3 => by
        have e2 : pickStep s.S k b q = some q := by unfold pickStep; rw [hy]; exact if_pos ⟨h1, h2, h3⟩
        exact ⟨sm, e1, _, _, by rw [ep, e2]; rfl⟩
      refine iteD (fun h1 => ?_) (fun h1 => ?_)
      rotate_left
      · exact fin fun h => h1 (by show V.int ((y.z : Nat) : Int) = V.int ((k : Nat) : Int); rw [h.1])
      have h1' : y.z = k := by injection h1 with h1; exact Int.ofNat.inj h1
      refine ⟨_, rfl, _, dx, _, rfl, ho, shF_no_has_free _ _ _, _, _, _, rfl, S', _, rfl, ?_⟩
      refine iteD (fun h2 => ?_) (fun h2 => ?_)
      rotate_left
      · exact fin fun h => h2 h.2.1
      cases b with
      | none =>
        refine ⟨_, rfl, rfl, _, rfl, iteD (fun _ => ?_) (fun h => absurd rfl h)⟩
        exact ⟨_, rfl, yes h1' h2 rfl⟩
      | some j =>
        obtain ⟨x, hx, _⟩ := pk j rfl
        have S2 := I'.sh hx
        obtain ⟨dx2, ho2⟩ := S2.ob
        have ec : cn s.S j = cnt x.tk := by unfold cn; rw [hx]
        refine ⟨_, rfl, rfl, _, rfl, iteD (fun h => by cases h) (fun _ => ?_)⟩
        refine ⟨_, rfl, _, dx, _, rfl, ho, shF_no_out _ _ _, _, _, _, rfl, S', ?_⟩
        refine ⟨_, rfl, _, dx2, _, rfl, ho2, shF_no_out _ _ _, _, _, _, rfl, S2, ?_⟩
        refine ⟨_, _, rfl, rfl, _, rfl, iteD (fun h => ?_) (fun h => ?_)⟩
        · refine ⟨_, rfl, yes h1' h2 ?_⟩
          show decide (cn s.S j < cnt y.tk) = true
          rw [ec]
          exact decide_eq_true (Int.ofNat_lt.mp h)
        · refine fin fun hh => h ?_
          have h3 : decide (cn s.S j < cnt y.tk) = true := hh.2.2
          rw [ec] at h3
          exact Int.ofNat_lt.mpr (of_decide_eq_true h3)
    · rintro σ H' ⟨sm, e1, v3, v4, rfl⟩
      have I' := I.same sm
      have el : (nV (pgs s.S m.n)).length = (pgs s.S m.n).length := List.length_map _
      rw [el, List.take_length]
      show tSeq _ _ _ _ _
      have hpk : (pgs s.S m.n).foldl (pickStep s.S k) none = pick s.S m.n k := rfl
      rw [hpk]
      cases ep : pick s.S m.n k with
      | some j =>
        refine ⟨_, rfl, rfl, _, rfl, iteD (fun h => by cases h) (fun _ => ?_)⟩
        refine ⟨_, rfl, kQ j s.S s H' ?_ I' hb rfl rfl rfl (Stp.same sm)⟩
        unfold shelfFor; rw [ep]
      | none =>
        refine ⟨_, rfl, rfl, _, rfl, iteD (fun _ => ?_) (fun h => absurd rfl h)⟩
        refine ⟨_, rfl, _, _, _, rfl, I'.rm, rmF_no (by decide) _ _ _ _, pa, z, m, s, rfl, I', hb, fun hf H1 sm1 => kN ?_ _ (fun b o e => sm1 _ _ (sm _ _ e)), fun i S' s' H1 hf J hb1 eS eC eA st => ?_⟩
        · unfold shelfFor; rw [ep, hf]
        have hi : i < m.n ∧ s'.S i = none := by
          have := hb1.mem_iff.mp List.mem_cons_self
          rw [mem_nones, Option.isNone_iff_eq_none] at this
          exact this
        -- Shelf(page, size, self.plan.per(size))
        have erm : s.ad .rm = s'.ad .rm := by rw [eA]
        rw [erm]
        obtain ⟨dxp, hpo⟩ := J.pl.ob
        refine ⟨_, rfl, _, rfl, _, rfl, J.fPlan T ⟨_, dxp, _, rfl, hpo, plF_no_per _ _, ?_⟩⟩
        refine ⟨_, rfl, pa, z, m, .int (k : Nat), rfl, J.pl, .int _, fun h => absurd hk (h _ rfl), fun w hw hwm => ?_⟩
        cases hw
        rw [per_cast J.pl.ok]
        intro x dx hx hdx nx
        have hz := J.pl.ok.zr hk
        have hl60 := J.pl.ok.L60
        refine ⟨x, dx, (i : Nat), (k : Nat), m.L / k, rfl, Nat.le_trans (Nat.div_le_self _ _) (by omega), upd_same, fun t H2 ht sh2 keep2 => ?_⟩
        have hx0 : H1 x = none := hx
        have ht0 : H1 t = none := made_free hx hdx ht
        have sm2 : Same H1 H2 := fun b o e => keep2 b o (by rw [upd_ne (ne_of_none e hx), upd_ne (ne_of_none e hdx)]; exact e) (ne_of_none e hx)
        have J2 := J.same sm2
        refine ⟨rfl, ?_⟩
        -- self.rows[page] = best
        refine ⟨_, rfl, _, rfl, J2.fRows T ⟨_, rfl, ?_⟩⟩
        obtain ⟨s3, J3, e3S, e3C, e3B, e3R, e3P, e3F⟩ := J.add (x := ⟨k, List.replicate (m.L / k) false⟩) hi.2 hi.1 hk (by simp) hx0 ht0 sh2 sm2
        refine ⟨_, _, rfl, DPut.k (k := Sum.inl (i : Int)) J2.d ?_, ?_⟩
        · unfold kvR
          rw [List.length_map, J.js.length_eq]
          exact Nat.lt_of_le_of_lt (Nat.le_trans (pgs_len _ _) (plen m I.pl.ok)) (by decide)
        refine ⟨_, rfl, ?_⟩
        have fin := kQ i (updT S' i (some ⟨k, List.replicate (m.L / k) false⟩)) s3 _ (by unfold shelfFor; rw [ep, hf]) J3 ?_ (by rw [e3S, eS]) (by rw [e3C, eC]) (by rw [e3R, eA]) ?_
        · rw [e3P] at fin
          exact fin
        · rw [e3B, e3S]
          have nd1 : (i :: s'.bare).Nodup := hb1.nodup_iff.mpr (nodup_lt (nones_lt _ _))
          obtain ⟨n1, n2⟩ := List.nodup_cons.mp nd1
          refine (List.perm_ext_iff_of_nodup n2 (nodup_lt (nones_lt _ _))).mpr fun j => ?_
          rw [mem_nones]
          have hm := hb1.mem_iff (a := j)
          rw [mem_nones, List.mem_cons] at hm
          by_cases q : j = i
          · subst q; rw [updT_same]; simp [n1]
          · rw [updT_ne q, ← hm]; simp [q]
        · refine Stp.trans (Stp.same sm) (Stp.trans st ⟨fun a o e n => ?_, fun a q => e3F a q⟩)
          rw [upd_ne (fun q => n ⟨.d, trivial, q.symm⟩)]
          exact sm2 _ _ e
end
end Sb
namespace Sb
open PySem PySem.Spec PyProof.Rows L2
theorem ff_ex : ∀ {l : List Bool}, cnt l < l.length → ∃ j, ff l = some j
  | [], h => absurd h (Nat.lt_irrefl _)
  | false :: l, _ => ⟨0, rfl⟩
  | true :: l, h => by
    have h1 : cnt l < l.length := by simp [cnt, List.count_cons] at h ⊢; omega
    obtain ⟨j, hj⟩ := ff_ex h1
    exact ⟨j + 1, by simp [ff, hj]⟩
theorem ff_lt {l : List Bool} {j : Nat} (h : ff l = some j) : j < l.length := (List.getElem?_eq_some_iff.mp (ff_at h)).1
theorem fresh_ok {S S1 : Tb} {n i : Nat} (h : fresh S n = some (i, S1)) : i < n ∧ S1 i = none ∧ (S1 = S ∨ S1 = updT S i none) := by
  unfold fresh at h
  split at h
  · rename_i i' r e
    cases h
    have := mem_nones.mp (by rw [e]; exact List.mem_cons_self : i ∈ nones S n)
    exact ⟨this.1, Option.isNone_iff_eq_none.mp this.2, .inl rfl⟩
  · split at h
    · rename_i i' r e
      cases h
      have := mem_emps.mp (by rw [e]; exact List.mem_cons_self : i ∈ emps S n)
      exact ⟨this.1, updT_same, .inr rfl⟩
    · cases h
theorem shelfFor_ok {S S1 : Tb} {n k l i : Nat} (hl : 1 ≤ l) (h : shelfFor S n k l = some (i, S1)) : ∃ x, S1 i = some x ∧ x.z = k ∧ cnt x.tk < x.tk.length := by
  unfold shelfFor at h
  split at h
  · rename_i j e
    cases h
    exact pick_ok e
  · split at h
    · cases h
    · cases h
      exact ⟨_, updT_same, rfl, by simp [cnt, List.count_replicate]; omega⟩
/-- a wish for a thing of the size k: the page, the slot, what stands then -/
def wishT (m : PlM) (S : Tb) (k : Nat) : Option (Nat × Nat × Tb) := match shelfFor S m.n k (m.L / k) with
  | none => none
  | some (i, S1) => match ff (sfOf S1 i).tk with
    | none => none
    | some j => some (i, j, updT S1 i (some ⟨k, (sfOf S1 i).tk.set j true⟩))
/-- nought on k places from p on -/
def zrs (cs : List Int) (p k : Nat) : List Int := (List.range k).foldl (fun c j => c.set (p + j) 0) cs
theorem zrs_succ (cs : List Int) (p k : Nat) : zrs cs p (k + 1) = (zrs cs p k).set (p + k) 0 := by unfold zrs; rw [List.range_succ, foldl_snoc']
theorem zrs_len (cs : List Int) (p : Nat) : ∀ k, (zrs cs p k).length = cs.length
  | 0 => rfl
  | k + 1 => by rw [zrs_succ, List.length_set, zrs_len cs p k]
theorem plc_lt {n L i j z t : Nat} (hi : i < n) (hj : j < L / z) (ht : t < z) : i * L + j * z + t < n * L := by
  have h1 : (j + 1) * z ≤ (L / z) * z := Nat.mul_le_mul_right z hj
  have h2 : (L / z) * z ≤ L := Nat.div_mul_le_self L z
  have h3 : (i + 1) * L ≤ n * L := Nat.mul_le_mul_right L hi
  rw [Nat.succ_mul] at h1 h3
  omega
theorem per1 {L k : Nat} (h1 : 1 ≤ k) (h2 : k ≤ L) : 1 ≤ L / k := by
  have := Nat.div_pos h2 h1
  omega
/-- a room, with what it owns -/
def RoomAt (A : Ad) (H : Hp) (r pa z : Addr) (m : PlM) (F : Addr → Prop) (S : Tb) (cs : List Int) : Prop :=
  ∃ s : Hs, RmI A H pa z m s ∧ s.bare.Perm (nones s.S m.n) ∧ s.ad .rm = r ∧ s.S = S ∧ s.cs = cs ∧ foot s = F
theorem RoomAt.same {A : Ad} {H H' : Hp} {r pa z : Addr} {m : PlM} {F : Addr → Prop} {S : Tb} {cs : List Int} (R : RoomAt A H r pa z m F S cs) (k : Same H H') : RoomAt A H' r pa z m F S cs := by
  obtain ⟨s, I, h⟩ := R
  exact ⟨s, I.same k, h⟩
theorem RoomAt.ob {A : Ad} {H : Hp} {r pa z : Addr} {m : PlM} {F : Addr → Prop} {S : Tb} {cs : List Int} (R : RoomAt A H r pa z m F S cs) : ∃ dx d b c, H r = some (.ins A.Room dx (rmF pa d b c)) := by
  obtain ⟨s, I, _, rfl, _⟩ := R
  exact ⟨_, _, _, _, I.rm⟩
theorem RoomAt.pl {A : Ad} {H : Hp} {r pa z : Addr} {m : PlM} {F : Addr → Prop} {S : Tb} {cs : List Int} (R : RoomAt A H r pa z m F S cs) : PlAt A H pa z m := by
  obtain ⟨s, I, _⟩ := R
  exact I.pl
theorem RoomAt.ok {A : Ad} {H : Hp} {r pa z : Addr} {m : PlM} {F : Addr → Prop} {S : Tb} {cs : List Int} (R : RoomAt A H r pa z m F S cs) : SOk m S := by
  obtain ⟨s, I, _, _, rfl, _⟩ := R
  exact I.ok
/-- what the room owns is there -/
theorem RoomAt.own {A : Ad} {H : Hp} {r pa z : Addr} {m : PlM} {F : Addr → Prop} {S : Tb} {cs : List Int} (R : RoomAt A H r pa z m F S cs) {a : Addr} (h : F a) : ∃ o, H a = some o := by
  obtain ⟨s, I, _, _, _, _, rfl⟩ := R
  obtain ⟨l, hl, rfl⟩ := h
  exact ⟨_, I.at_ l hl⟩
/-- a room stays, where another changes -/
theorem RoomAt.other {A : Ad} {H H' : Hp} {r pa z : Addr} {m : PlM} {F : Addr → Prop} {S : Tb} {cs : List Int} (R : RoomAt A H r pa z m F S cs) (k : ∀ a o, H a = some o → F a ∨ a = pa ∨ a = z → H' a = some o) : RoomAt A H' r pa z m F S cs := by
  obtain ⟨s, I, h1, h2, h3, h4, rfl⟩ := R
  exact ⟨s, I.keep k, h1, h2, h3, h4, rfl⟩
def sp_Room_wish (K : PySem.W.Frag) (A : Ad) : Sp := fun vs H Q E => ∃ (r pa z : Addr) (m : PlM) (F : Addr → Prop) (S : Tb) (cs : List Int) (v : V), vs = [.ref r, v] ∧ RoomAt A H r pa z m F S cs ∧ Kind K H v ∧
  (isWish v = false → E (.ref A.BadWish) none H) ∧ ∀ i, v = .int i → 1 ≤ i → (sizeFor m.sizes i = none → E (.ref A.TooLarge) none H) ∧
  ∀ k : Nat, sizeFor m.sizes i = some (k : Int) → (wishT m S k = none → ∀ H', Same H H' → E (.ref A.NoRoom) none H') ∧
  ∀ pg j S' H' F', wishT m S k = some (pg, j, S') → RoomAt A H' r pa z m F' S' (zrs cs (pg * m.L + j * k) k) → Stp F H F' H' → Q (.int (pg * m.L + j * k : Nat)) H'
theorem sizeFor_mem {ss : List Int} {i k : Int} (h : sizeFor ss i = some k) : k ∈ ss := List.mem_of_find?_eq_some h
theorem PlM.Ok.nat {m : PlM} (h : m.Ok) {k : Int} (hk : k ∈ m.sizes) : ∃ j : Nat, k = (j : Int) := by have := h.rng _ hk; exact ⟨k.toNat, by omega⟩
def sp_Room_init (K : PySem.W.Frag) (A : Ad) : Sp := fun vs H Q _ => ∃ (r pa z dx : Addr) (m : PlM), vs = [.ref r, .ref pa] ∧ PlAt A H pa z m ∧ H r = some (.ins A.Room dx []) ∧
  ∀ H' F, RoomAt A H' r pa z m F (fun _ => none) (List.replicate (m.n * m.L) 0) → (∀ a, F a → a = r ∨ H a = none) → (∀ b o, H b = some o → b ≠ r → H' b = some o) → Q .non H'
section
variable {P : Program} {w : World} {K : PySem.W.Frag} {mg : Str → Option Value} {base : Heap} {A : Ad}
theorem ok_Room_wish (T : Tx K mg A) : Mf P w K mg base 5 A.Room "wish" ["self", "places"] (sp_Room_wish K A) := by
  refine Dm.ok T.d_Room_wish sc_Room_wish bi_Room_wish (fun vs H Q E h => ?_) (fun f cdv Ar outer s H vs Q E hr h => ?_)
  · obtain ⟨r, pa, z, m, F, S, cs, v, rfl, _⟩ := h; rfl
  · obtain ⟨r, pa, z, m, F, S, cs, v, rfl, ⟨s, I, hb, rfl, rfl, rfl, rfl⟩, kv, kB, kk⟩ := h
    refine ⟨_, (pss_cons (ps_set (i := 2) sc_Room_wish.nd rfl (Or.inl rfl) (pe_mfS (ok_Plan_size_for T) T.c_Plan hr (by decide) (takes_of rfl rfl rfl rfl) (pe_fld (pv 0) rfl) (pa_cons (pv 1) pa_nil)))
    (pss_cons (ps_set (i := 3) sc_Room_wish.nd rfl (Or.inl rfl) (pe_mfS (ok_Room_shelf_for T) T.c_Room hr (by decide) (takes_of rfl rfl rfl rfl) (pv 0) (pa_cons (pv 2) pa_nil)))
    (pss_cons (ps_set (i := 4) sc_Room_wish.nd rfl (Or.inl rfl) (pe_mf (ok_Room_place_of T) T.c_Room hr (by decide) (pv 0) (pa_cons (pv 3) (pa_cons (pe_mfS0 (ok_Shelf_take T) T.c_Shelf hr (by decide) (takes_of rfl rfl rfl rfl) (pv 3)) pa_nil))))
    (pss_cons (ps_for (passes_of rfl) rfl (pi_range1 (by rfl) T.z_range (pa_cons (pv 2) pa_nil)) (pg_name (i := 5) sc_Room_wish.nd rfl (Or.inl rfl))
    (pss_one (ps_asg pe_int (pg_sub (pe_fld (pv 0) rfl) (pe_op op_add (pv 4) (pv 5)) set_list))))
    (pss_one (ps_ret (pv 4))))))), ?_⟩
    obtain ⟨dxp, hpo⟩ := I.pl.ob
    refine ⟨_, rfl, I.fPlan T ⟨_, dxp, _, rfl, hpo, plF_no_size_for _ _, _, rfl, pa, z, m, v, rfl, I.pl, kv, kB, fun i hi h1 => ⟨(kk i hi h1).1, fun k0 hk0 => ?_⟩⟩⟩
    have hmem := sizeFor_mem hk0
    obtain ⟨k, rfl⟩ := I.pl.ok.nat hmem
    obtain ⟨kN, kQ⟩ := (kk i hi h1).2 k hk0
    have hz := I.pl.ok.zr hmem
    -- shelf = self.shelf_for(size)
    refine ⟨_, rfl, _, _, _, rfl, I.rm, rmF_no (by decide) _ _ _ _, _, rfl, pa, z, m, s, k, rfl, I, hb, hmem, fun hn H' sm => kN ?_ H' sm, fun pg S1 s1 H1 hs J hb1 eS eC eR st => ?_⟩
    · unfold wishT; rw [hn]
    obtain ⟨x, hx, xz, xc⟩ := shelfFor_ok (per1 hz.1 hz.2) hs
    rw [← eS] at hx
    obtain ⟨j, hj⟩ := ff_ex xc
    obtain ⟨x1, x2, x3⟩ := J.ok pg x hx
    have hl60 := J.pl.ok.L60
    have xl : x.tk.length ≤ 1000 := by rw [x3]; exact Nat.le_trans (Nat.div_le_self _ _) (by omega)
    have ew : wishT m s.S k = some (pg, j, updT S1 pg (some ⟨k, x.tk.set j true⟩)) := by
      unfold wishT
      rw [hs]
      dsimp only
      rw [sfOf_at (eS ▸ hx), hj]
    have Sx := J.sh hx
    obtain ⟨dx, ho⟩ := Sx.ob
    rw [← eR]
    refine ⟨_, rfl, _, _, _, rfl, J.rm, rmF_no (by decide) _ _ _ _, _, rfl, _, rfl, _, dx, _, rfl, ho, shF_no_take _ _ _, _, _, _, rfl, Sx, xl, fun hn => absurd (hj.symm.trans hn) (by intro q; cases q), fun j' H2 hj' sh2 b2 => ?_⟩
    cases hj.symm.trans hj'
    obtain ⟨dx2, J2⟩ := J.putSh (y := ⟨k, x.tk.set j true⟩) hx (by rw [← xz]; exact sh2) b2 xz.symm (List.length_set ..)
    refine ⟨pa, z, m, { s1 with dx := dx2, S := updT s1.S pg (some ⟨k, x.tk.set j true⟩) }, pg, j, ⟨k, x.tk.set j true⟩, rfl, J2, updT_same, ?_⟩
    have ep : plc m pg j ⟨k, x.tk.set j true⟩ = pg * m.L + j * k := rfl
    rw [ep]
    have st2 : Stp (foot s) H (foot { s1 with dx := dx2, S := updT s1.S pg (some ⟨k, x.tk.set j true⟩) }) H2 := st.trans (Stp.but2 hx b2)
    have hj3 : j < m.L / k := by have := ff_lt hj; rw [x3, xz] at this; exact this
    -- the places
    refine ⟨_, rfl, _, rfl, (by omega), (by omega), for_range (lo := 0) (n := _) (fun t σ H' => ∃ v5, σ = [some (.ref (s1.ad .rm)), some v, some (.int (k : Nat)), some (.ref (s1.ad (.p pg))), some (.int (pg * m.L + j * k : Nat)), v5] ∧
      RmI A H' pa z m { s1 with dx := dx2, S := updT s1.S pg (some ⟨k, x.tk.set j true⟩), cs := zrs s1.cs (pg * m.L + j * k) t } ∧ Stp (foot s) H (foot { s1 with dx := dx2, S := updT s1.S pg (some ⟨k, x.tk.set j true⟩) }) H') ⟨_, rfl, J2, st2⟩ ?_ ?_⟩
    · rintro t σ H' ht ⟨v5, rfl, J3, st3⟩
      have ht2 : t < k := by simpa using ht
      have hlt : pg * m.L + j * k + t < (zrs s1.cs (pg * m.L + j * k) t).length := by
        rw [zrs_len, J.cl]
        exact plc_lt x1 hj3 ht2
      refine ⟨_, rfl, J3.fCells T ⟨_, rfl, _, rfl, _, _, rfl, rfl, _, _, _, pg * m.L + j * k + t, rfl, rfl, J3.c, ?_, ?_⟩⟩
      · show ixN ((zrs s1.cs (pg * m.L + j * k) t).map V.int).length (((pg * m.L + j * k : Nat) : Int) + (0 + (t : Int))) = _
        rw [List.length_map, Int.zero_add, ← Int.natCast_add]
        exact ixN_at hlt
      have J4 := J3.putCells (cs := zrs s1.cs (pg * m.L + j * k) (t + 1)) (by show (zrs s1.cs _ (t + 1)).length = _; rw [zrs_len]; exact J.cl)
      have e4 : (zrs s1.cs (pg * m.L + j * k) (t + 1)).map V.int = ((zrs s1.cs (pg * m.L + j * k) t).map V.int).set (pg * m.L + j * k + t) (.int 0) := by rw [zrs_succ, List.map_set]
      rw [e4] at J4
      exact ⟨_, rfl, J4, st3.trans (Stp.put (l0 := .c) trivial)⟩
    · rintro σ H' ⟨v5, rfl, J3, st3⟩
      rw [Int.toNat_natCast] at J3
      refine ⟨_, rfl, kQ pg j _ H' _ ew ⟨_, J3, ?_, eR, ?_, ?_, rfl⟩ st3⟩
      · show s1.bare.Perm (nones (updT s1.S pg (some ⟨k, x.tk.set j true⟩)) m.n)
        have e : nones (updT s1.S pg (some ⟨k, x.tk.set j true⟩)) m.n = nones s1.S m.n := by
          unfold nones
          refine List.filter_congr fun q _ => ?_
          by_cases h : q = pg
          · subst h; rw [updT_same, hx]; rfl
          · rw [updT_ne h]
        rw [e]; exact hb1
      · show updT s1.S pg _ = _
        rw [eS]
      · show zrs s1.cs _ _ = _
        rw [eC]
end
end Sb
namespace Sb
open PySem PySem.Spec PyProof.Rows L2
/-- which page and slot a thing that is out and begins there has -/
def locate (m : PlM) (S : Tb) (p : Int) : Option (Nat × Nat) := if p < 0 then none else match S (p.toNat / m.L) with
  | none => none
  | some x => if p.toNat % m.L % x.z = 0 ∧ x.tk.getD (p.toNat % m.L / x.z) false = true then some (p.toNat / m.L, p.toNat % m.L / x.z) else none
theorem isOut_nat (l : List Bool) (j : Nat) : isOut l ((j : Nat) : Int) = l.getD j false := by
  unfold isOut
  rw [decide_eq_true (Int.natCast_nonneg j), Bool.true_and, Int.toNat_natCast]
theorem locate_ok {m : PlM} {S : Tb} {p : Int} {i j : Nat} (h : locate m S p = some (i, j)) : ∃ x, S i = some x ∧ x.tk[j]? = some true := by
  unfold locate at h
  split at h
  · cases h
  · split at h
    · cases h
    · rename_i x e
      split at h
      · rename_i q
        cases h
        refine ⟨x, e, ?_⟩
        have := q.2
        rw [List.getD_eq_getElem?_getD] at this
        cases e2 : x.tk[p.toNat % m.L / x.z]? with
        | none => rw [e2] at this; exact absurd this (by decide)
        | some b => rw [e2] at this; have h2 : b = true := this; rw [h2]
      · cases h
/-- what stands behind a giving back -/
def giveS (S : Tb) (i j : Nat) : Tb := updT S i (some ⟨(sfOf S i).z, (sfOf S i).tk.set j false⟩)
def others (S : Tb) (n z : Nat) : List Nat := (emps S n).filter fun q => decide ((sfOf S q).z = z)
def giveT (m : PlM) (S : Tb) (i j : Nat) : Tb := if cnt (sfOf (giveS S i j) i).tk = 0 ∧ 1 < (others (giveS S i j) m.n (sfOf S i).z).length then updT (giveS S i j) i none else giveS S i j
def dropAll (S : Tb) (l : List Nat) : Tb := l.foldl (fun T q => updT T q none) S
theorem dropAll_at (l : List Nat) : ∀ (S : Tb) (q : Nat), dropAll S l q = if q ∈ l then none else S q := by
  induction l with
  | nil => intro S q; simp [dropAll]
  | cons i l ih =>
    intro S q
    have e : dropAll S (i :: l) = dropAll (updT S i none) l := rfl
    rw [e, ih]
    by_cases h : q ∈ l
    · rw [if_pos h, if_pos (List.mem_cons_of_mem _ h)]
    · rw [if_neg h]
      by_cases h2 : q = i
      · subst h2; rw [updT_same, if_pos List.mem_cons_self]
      · rw [updT_ne h2, if_neg (fun z => by rcases List.mem_cons.mp z with z | z; exact h2 z; exact h z)]
def trimT (S : Tb) (n : Nat) : Tb := dropAll S (emps S n)
def sp_Room_found (K : PySem.W.Frag) (A : Ad) : Sp := fun vs H Q E => ∃ (pa z : Addr) (m : PlM) (s : Hs) (p : Int), vs = [.ref (s.ad .rm), .int p] ∧ RmI A H pa z m s ∧
  (locate m s.S p = none → E (.ref A.NotOut) none H) ∧ ∀ i j q, locate m s.S p = some (i, j) → H q = none → Q (.ref q) (upd H q (.tup [.ref (s.ad (.p i)), .int (j : Nat)]))
def sp_Room_give_back (K : PySem.W.Frag) (A : Ad) : Sp := fun vs H Q E => ∃ (r pa z : Addr) (m : PlM) (F : Addr → Prop) (S : Tb) (cs : List Int) (p : Int), vs = [.ref r, .int p] ∧ RoomAt A H r pa z m F S cs ∧
  (locate m S p = none → E (.ref A.NotOut) none H) ∧ ∀ i j H' F', locate m S p = some (i, j) → RoomAt A H' r pa z m F' (giveT m S i j) cs → Stp F H F' H' → Q .non H'
def sp_Room_trim (K : PySem.W.Frag) (A : Ad) : Sp := fun vs H Q _ => ∃ (r pa z : Addr) (m : PlM) (F : Addr → Prop) (S : Tb) (cs : List Int), vs = [.ref r] ∧ RoomAt A H r pa z m F S cs ∧
  ∀ H' F', RoomAt A H' r pa z m F' (trimT S m.n) cs → Stp F H F' H' → Q (.int ((emps S m.n).length : Nat)) H'
def sp_Room_cell (K : PySem.W.Frag) (A : Ad) : Sp := fun vs H Q E => ∃ (r pa z : Addr) (m : PlM) (F : Addr → Prop) (S : Tb) (cs : List Int) (p t : Int), vs = [.ref r, .int p, .int t] ∧ RoomAt A H r pa z m F S cs ∧
  (locate m S p = none → E (.ref A.NotOut) none H) ∧ ∀ i j, locate m S p = some (i, j) → (¬ (0 ≤ t ∧ t < (sfOf S i).z) → ∀ H', Same H H' → E (.ref A.OutOfThing) none H') ∧ (0 ≤ t → t < (sfOf S i).z → ∀ H', Same H H' → Q (.int (p + t)) H')
def sp_Room_read (K : PySem.W.Frag) (A : Ad) : Sp := fun vs H Q E => ∃ (r pa z : Addr) (m : PlM) (F : Addr → Prop) (S : Tb) (cs : List Int) (p t : Int), vs = [.ref r, .int p, .int t] ∧ RoomAt A H r pa z m F S cs ∧
  (locate m S p = none → E (.ref A.NotOut) none H) ∧ ∀ i j, locate m S p = some (i, j) → (¬ (0 ≤ t ∧ t < (sfOf S i).z) → ∀ H', Same H H' → E (.ref A.OutOfThing) none H') ∧ (0 ≤ t → t < (sfOf S i).z → ∀ H', Same H H' → Q (.int (cs.getD (p + t).toNat 0)) H')
def sp_Room_write (K : PySem.W.Frag) (A : Ad) : Sp := fun vs H Q E => ∃ (r pa z : Addr) (m : PlM) (F : Addr → Prop) (S : Tb) (cs : List Int) (p t v : Int), vs = [.ref r, .int p, .int t, .int v] ∧ RoomAt A H r pa z m F S cs ∧
  (locate m S p = none → E (.ref A.NotOut) none H) ∧ ∀ i j, locate m S p = some (i, j) → (¬ (0 ≤ t ∧ t < (sfOf S i).z) → ∀ H', Same H H' → E (.ref A.OutOfThing) none H') ∧
    (0 ≤ t → t < (sfOf S i).z → ∀ H', RoomAt A H' r pa z m F S (cs.set (p + t).toNat v) → Stp F H F H' → Q .non H')
theorem locate_lt {m : PlM} {S : Tb} {p : Int} {i j : Nat} (ok : SOk m S) (hL : 1 ≤ m.L) (h : locate m S p = some (i, j)) : ∃ x, S i = some x ∧ x.tk[j]? = some true ∧ j < m.L / x.z ∧ p = ((i * m.L + j * x.z : Nat) : Int) ∧ i < m.n := by
  obtain ⟨x, hx, hj⟩ := locate_ok h
  have hlt := (List.getElem?_eq_some_iff.mp hj).1
  obtain ⟨a1, a2, a3⟩ := ok i x hx
  rw [a3] at hlt
  refine ⟨x, hx, hj, hlt, ?_, a1⟩
  unfold locate at h
  split at h
  · cases h
  · rename_i hp
    split at h
    · cases h
    · rename_i y e
      split at h
      · rename_i q
        obtain ⟨q1, _⟩ := q
        injection h with h
        injection h with h1 h2
        subst h1
        rw [hx] at e
        cases e
        subst h2
        have d1 := Nat.div_add_mod p.toNat m.L
        have d2 := Nat.div_add_mod (p.toNat % m.L) x.z
        rw [q1, Nat.add_zero] at d2
        rw [Nat.mul_comm _ m.L, Nat.mul_comm _ x.z, d2, d1]
        omega
      · cases h
theorem RoomAt.cl {A : Ad} {H : Hp} {r pa z : Addr} {m : PlM} {F : Addr → Prop} {S : Tb} {cs : List Int} (R : RoomAt A H r pa z m F S cs) : cs.length = m.n * m.L := by
  obtain ⟨s, I, _, _, _, rfl, _⟩ := R
  exact I.cl
theorem cell_in {m : PlM} {S : Tb} {p t : Int} {i j : Nat} {l : Nat} (ok : SOk m S) (hL : 1 ≤ m.L) (hl : l = m.n * m.L) (h : locate m S p = some (i, j)) (h0 : 0 ≤ t) (h1 : t < (sfOf S i).z) : 0 ≤ p + t ∧ (p + t).toNat < l := by
  obtain ⟨x, hx, hj, hlt, hp, hi⟩ := locate_lt ok hL h
  rw [sfOf_at hx] at h1
  have := plc_lt (t := t.toNat) hi hlt (by omega)
  rw [← hl] at this
  omega
section
variable {P : Program} {w : World} {K : PySem.W.Frag} {mg : Str → Option Value} {base : Heap} {A : Ad}
theorem ok_Room_found (T : Tx K mg A) : Mf P w K mg base 2 A.Room "found" ["self", "place"] (sp_Room_found K A) := by
  refine Dm.ok T.d_Room_found sc_Room_found bi_Room_found (fun vs H Q E h => ?_) (fun f cdv Ar outer s H vs Q E hr h => ?_)
  · obtain ⟨pa, z, m, s, p, rfl, _⟩ := h; rfl
  · obtain ⟨pa, z, m, s, p, rfl, I, kN, k⟩ := h
    refine ⟨_, (pss_cons (ps_set (i := 2) sc_Room_found.nd rfl (Or.inl rfl) (pe_fld (pe_fld (pv 0) rfl) rfl))
    (pss_cons (ps_set (i := 3) sc_Room_found.nd rfl (Or.inl rfl) (pe_op op_fdiv (pv 1) (pv 2)))
    (pss_cons (ps_if (pt_cmp (pc_din (hu_of hr) (pv 3) (pe_fld (pv 0) rfl))) (pss_cons (ps_set (i := 4) sc_Room_found.nd rfl (Or.inl rfl) (pe_dget (hu_of hr) (pe_fld (pv 0) rfl) (pv 3) (fun _ _ => rfl)))
    (pss_cons (ps_set (i := 5) sc_Room_found.nd rfl (Or.inl rfl) (pe_op op_sub (pv 1) (pe_op op_mul (pv 3) (pv 2))))
    (pss_one (ps_if (PW.pt (pw_and (pt_cmpR op_eq (pe_op op_mod (pv 5) (pe_fld (pv 4) rfl)) pe_int (nomark _)) (pw_and1 (pt_val (pe_mf (ok_Shelf_is_out T) T.c_Shelf hr (by decide) (pv 4) (pa_cons (pe_op op_fdiv (pv 5) (pe_fld (pv 4) rfl)) pa_nil)))))) (pss_one (ps_ret (pe_tup (pa_cons (pv 4) (pa_cons (pe_op op_fdiv (pv 5) (pe_fld (pv 4) rfl)) pa_nil)))))
    pss_nil))))
    pss_nil)
    (pss_one (ps_err rfl T.e_NotOut (by rfl) (takes_of rfl rfl rfl rfl)))))), ?_⟩
    have mo := I.pl.ok
    have hL := mo.eL
    have hL1 := mo.L1
    have hL60 := mo.L60
    refine ⟨_, rfl, I.fPlan T (I.pl.fLength T ?_)⟩
    refine ⟨_, rfl, _, rfl, _, _, rfl, rfl, ⟨by rw [hL]; omega, by rw [hL]; omega⟩, ?_⟩
    refine ⟨_, rfl, _, rfl, I.fRows T ?_⟩
    by_cases hp : p < 0
    · have hneg : p / m.length < 0 := Int.ediv_neg_of_neg_of_pos hp (by rw [hL]; omega)
      refine ⟨_, _, rfl, I.dget_neg hneg, _, rfl, ?_⟩
      exact kN (by unfold locate; rw [if_pos hp])
    obtain ⟨q, rfl⟩ : ∃ q : Nat, p = (q : Int) := ⟨p.toNat, by omega⟩
    have ed : ((q : Nat) : Int) / m.length = ((q / m.L : Nat) : Int) := by rw [hL]; exact (Int.natCast_ediv _ _).symm
    dsimp only
    rw [ed]
    have el : locate m s.S ((q : Nat) : Int) = match s.S (q / m.L) with
        | none => none
        | some x => if q % m.L % x.z = 0 ∧ x.tk.getD (q % m.L / x.z) false = true then some (q / m.L, q % m.L / x.z) else none := by unfold locate; rw [if_neg hp]; rfl
    cases hx : s.S (q / m.L) with
    | none =>
      refine ⟨_, _, rfl, I.dget_no hx, _, rfl, ?_⟩
      exact kN (by rw [el, hx])
    | some x =>
      rw [hx] at el
      dsimp only at el
      have Sx := I.sh hx
      obtain ⟨dx, ho⟩ := Sx.ob
      obtain ⟨x1, x2, x3⟩ := I.ok _ _ hx
      have hz := mo.zr x2
      refine ⟨_, _, rfl, I.dget hx, _, rfl, ?_⟩
      refine ⟨_, rfl, I.fRows T ⟨_, rfl, _, _, rfl, I.dget hx, ?_⟩⟩
      have hn40 := plen m mo
      refine ⟨_, rfl, _, rfl, _, rfl, _, _, rfl, rfl, .inl ⟨?_, ?_⟩, _, _, rfl, rfl, ?_⟩
      · exact Int.lt_of_lt_of_le (by decide : -(2 ^ 64) < (0 : Int)) (Int.natCast_nonneg (q / m.L))
      · show ((q / m.L : Nat) : Int) < 2 ^ 64
        generalize q / m.L = u at x1 ⊢
        omega
      have ef : ((q : Nat) : Int) - ((q / m.L : Nat) : Int) * m.length = ((q % m.L : Nat) : Int) := by
        rw [hL]
        have := Nat.div_add_mod q m.L
        rw [Nat.mul_comm] at this
        have h2 : ((q / m.L * m.L + q % m.L : Nat) : Int) = (q : Int) := by rw [this]
        rw [Int.natCast_add, Int.natCast_mul] at h2
        omega
      dsimp only
      rw [ef]
      have em : ((q % m.L : Nat) : Int) % (x.z : Int) = ((q % m.L % x.z : Nat) : Int) := (Int.natCast_emod _ _).symm
      have edz : ((q % m.L : Nat) : Int) / (x.z : Int) = ((q % m.L / x.z : Nat) : Int) := (Int.natCast_ediv _ _).symm
      refine ⟨_, rfl, _, rfl, Sx.fSize T ⟨_, _, rfl, rfl, ?_, rfl, _, rfl, ?_⟩⟩
      · show (0 : Int) < ((x.z : Nat) : Int); omega
      refine iteD (fun h1 => ?_) (fun h1 => ?_)
      rotate_left
      · refine kN ?_
        rw [el, if_neg]
        intro h2
        refine h1 ?_
        show V.int (((q % m.L : Nat) : Int) % (x.z : Int)) = V.int 0
        rw [em, h2.1]; rfl
      have h1' : q % m.L % x.z = 0 := by
        have h1'' : V.int (((q % m.L : Nat) : Int) % (x.z : Int)) = V.int 0 := h1
        rw [em] at h1''
        injection h1'' with h1''
        omega
      refine ⟨_, rfl, _, dx, _, rfl, ho, shF_no_is_out _ _ _, _, rfl, _, rfl, Sx.fSize T ⟨_, _, rfl, rfl, ⟨?_, ?_⟩, ?_⟩⟩
      · show (0 : Int) < ((x.z : Nat) : Int); omega
      · show ((x.z : Nat) : Int) < 1073741824; omega
      refine ⟨_, _, _, _, rfl, Sx, _, rfl, ?_⟩
      have eo : isOut (shM (q / m.L) x).tk (((q % m.L : Nat) : Int) / (x.z : Int)) = x.tk.getD (q % m.L / x.z) false := by rw [edz, isOut_nat]; rfl
      show if isOut (shM (q / m.L) x).tk (((q % m.L : Nat) : Int) / (x.z : Int)) = true then _ else _
      rw [eo]
      refine iteB (fun h2 => ?_) (fun h2 => ?_)
      · refine ⟨_, rfl, _, rfl, _, rfl, Sx.fSize T ⟨_, _, rfl, rfl, ⟨?_, ?_⟩, ?_⟩⟩
        · show (0 : Int) < ((x.z : Nat) : Int); omega
        · show ((x.z : Nat) : Int) < 1073741824; omega
        refine ⟨(by show 2 ≤ sizeLine; decide), fun t ht => ?_⟩
        have e2 : V.int (((q % m.L : Nat) : Int) / (x.z : Int)) = V.int ((q % m.L / x.z : Nat) : Int) := by rw [edz]
        have := k (q / m.L) (q % m.L / x.z) t (by rw [el, if_pos ⟨h1', h2⟩]) ht
        rw [← e2] at this
        exact this
      · refine kN ?_
        rw [el, if_neg]
        intro h3
        rw [h2] at h3
        exact absurd h3.2 (by decide)
theorem ok_Room_cell (T : Tx K mg A) : Mf P w K mg base 3 A.Room "cell" ["self", "place", "step"] (sp_Room_cell K A) := by
  refine Dm.ok T.d_Room_cell sc_Room_cell bi_Room_cell (fun vs H Q E h => ?_) (fun f cdv Ar outer s H vs Q E hr h => ?_)
  · obtain ⟨r, pa, z, m, F, S, cs, p, t, rfl, _⟩ := h; rfl
  · obtain ⟨r, pa, z, m, F, S, cs, p, t, rfl, ⟨s, I, hb, rfl, rfl, rfl, rfl⟩, kN, kk⟩ := h
    refine ⟨_, (pss_cons (ps_set (i := 3) sc_Room_cell.nd rfl (Or.inl rfl) (pe_fld (pe_ix ix_tup (pe_mfS (ok_Room_found T) T.c_Room hr (by decide) (takes_of rfl rfl rfl rfl) (pv 0) (pa_cons (pv 1) pa_nil)) pe_int (fun _ _ => rfl)) rfl))
    (pss_cons (ps_if (pt_not (pt_chain op_le op_lt pe_int (pv 2) (pv 3))) (pss_one (ps_err rfl T.e_OutOfThing (by rfl) (takes_of rfl rfl rfl rfl)))
    pss_nil)
    (pss_one (ps_ret (pe_op op_add (pv 1) (pv 2)))))), ?_⟩
    refine ⟨_, rfl, _, _, _, rfl, I.rm, rmF_no (by decide) _ _ _ _, _, rfl, pa, z, m, s, p, rfl, I, kN, fun i j q hl hq => ?_⟩
    obtain ⟨kE, kQ⟩ := kk i j hl
    obtain ⟨x, hx, _⟩ := locate_ok hl
    rw [sfOf_at hx] at kE kQ
    have I' : RmI A (upd H q (.tup [.ref (s.ad (.p i)), .int (j : Nat)])) pa z m s := I.same (sm_n hq)
    have Sx := I'.sh hx
    refine ⟨q, _, _, .ref (s.ad (.p i)), rfl, rfl, .inl (.inl upd_same), at_of (j := 0) (by decide) rfl, Sx.fSize T ?_⟩
    refine ⟨_, rfl, _, _, rfl, rfl, _, rfl, ?_⟩
    refine iteD (fun h0 => ?_) (fun h0 => ?_)
    · refine ⟨_, rfl, _, _, rfl, rfl, _, rfl, ?_⟩
      refine iteND (fun h1 => kE (fun h => h1 h.2) _ (sm_n hq)) (fun h1 => ?_)
      exact ⟨_, rfl, _, rfl, _, _, rfl, rfl, kQ h0 h1 _ (sm_n hq)⟩
    · exact ⟨_, rfl, kE (fun h => h0 h.1) _ (sm_n hq)⟩
theorem ok_Room_read (T : Tx K mg A) : Mf P w K mg base 4 A.Room "read" ["self", "place", "step"] (sp_Room_read K A) := by
  refine Dm.ok T.d_Room_read sc_Room_read bi_Room_read (fun vs H Q E h => ?_) (fun f cdv Ar outer s H vs Q E hr h => ?_)
  · obtain ⟨r, pa, z, m, F, S, cs, p, t, rfl, _⟩ := h; rfl
  · obtain ⟨r, pa, z, m, F, S, cs, p, t, rfl, ⟨s, I, hb, rfl, rfl, rfl, rfl⟩, kN, kk⟩ := h
    refine ⟨_, (pss_one (ps_ret (pe_ix ix_list (pe_fld (pv 0) rfl) (pe_mfS (ok_Room_cell T) T.c_Room hr (by decide) (takes_of rfl rfl rfl rfl) (pv 0) (pa_cons (pv 1) (pa_cons (pv 2) pa_nil))) (fun _ _ => rfl)))), ?_⟩
    refine ⟨_, rfl, I.fCells T ⟨_, rfl, _, _, _, rfl, I.rm, rmF_no (by decide) _ _ _ _, _, rfl, _, rfl, _, pa, z, m, _, _, _, p, t, rfl, ⟨s, I, hb, rfl, rfl, rfl, rfl⟩, kN, fun i j hl => ⟨(kk i j hl).1, fun h0 h1 H' sm => ?_⟩⟩⟩
    have I' := I.same sm
    have hc := cell_in I.ok I.pl.ok.L1 I.cl hl h0 h1
    refine ⟨_, _, _, .int (s.cs.getD (p + t).toNat 0), rfl, rfl, SqL.of I'.c, at_of (j := (p + t).toNat) (by omega) ?_, (kk i j hl).2 h0 h1 _ sm⟩
    rw [List.getElem?_map, List.getD_eq_getElem?_getD, List.getElem?_eq_getElem hc.2]
    rfl
theorem ok_Room_write (T : Tx K mg A) : Mf P w K mg base 4 A.Room "write" ["self", "place", "step", "number"] (sp_Room_write K A) := by
  refine Dm.ok T.d_Room_write sc_Room_write bi_Room_write (fun vs H Q E h => ?_) (fun f cdv Ar outer s H vs Q E hr h => ?_)
  · obtain ⟨r, pa, z, m, F, S, cs, p, t, v, rfl, _⟩ := h; rfl
  · obtain ⟨r, pa, z, m, F, S, cs, p, t, v, rfl, ⟨s, I, hb, rfl, rfl, rfl, rfl⟩, kN, kk⟩ := h
    refine ⟨_, (pss_one (ps_asg (pv 3) (pg_sub (pe_fld (pv 0) rfl) (pe_mfS (ok_Room_cell T) T.c_Room hr (by decide) (takes_of rfl rfl rfl rfl) (pv 0) (pa_cons (pv 1) (pa_cons (pv 2) pa_nil))) set_list))), ?_⟩
    refine ⟨_, rfl, _, rfl, I.fCells T ⟨_, rfl, _, _, _, rfl, I.rm, rmF_no (by decide) _ _ _ _, _, rfl, _, rfl, _, pa, z, m, _, _, _, p, t, rfl, ⟨s, I, hb, rfl, rfl, rfl, rfl⟩, kN, fun i j hl => ⟨(kk i j hl).1, fun h0 h1 H' sm => ?_⟩⟩⟩
    have I' := I.same sm
    have hc := cell_in I.ok I.pl.ok.L1 I.cl hl h0 h1
    refine ⟨_, _, _, (p + t).toNat, rfl, rfl, I'.c, ?_, ?_⟩
    · rw [List.length_map, show p + t = (((p + t).toNat : Nat) : Int) by omega]
      exact ixN_at hc.2
    have I2 := I'.putCells (cs := s.cs.set (p + t).toNat v) (by rw [List.length_set]; exact I.cl)
    rw [List.map_set] at I2
    exact (kk i j hl).2 h0 h1 _ ⟨_, I2, hb, rfl, rfl, rfl, rfl⟩ ((Stp.same sm).trans (Stp.put (s := s) (l0 := .c) trivial))
end
end Sb
namespace Sb
open PySem PySem.Spec PyProof.Rows L2
/-! ### lists of tuples in the heap -/
def TupL (H : Hp) (q : Addr) (rows : List (List V)) : Prop := ∃ ts : List Addr, H q = some (.lst (ts.map V.ref)) ∧ ts.map H = rows.map fun r => some (.tup r)
theorem map_keep {H H' : Hp} {ts : List Addr} {rows : List (List V)} (h : ts.map H = rows.map fun r => some (.tup r)) (k : ∀ t r, t ∈ ts → H t = some (.tup r) → H' t = some (.tup r)) : ts.map H' = rows.map fun r => some (.tup r) := by
  rw [← h]
  refine List.map_congr_left fun t ht => ?_
  have : H t ∈ ts.map H := List.mem_map.mpr ⟨t, ht, rfl⟩
  rw [h] at this
  obtain ⟨r, _, hr⟩ := List.mem_map.mp this
  rw [← hr]
  exact k t r ht hr.symm
theorem TupL.keep {H H' : Hp} {q : Addr} {rows : List (List V)} (h : TupL H q rows) (k : Same H H') : TupL H' q rows := by
  obtain ⟨ts, h1, h2⟩ := h
  exact ⟨ts, k _ _ h1, map_keep h2 fun t r _ e => k _ _ e⟩
theorem TupL.nil {H : Hp} {q : Addr} (h : H q = some (.lst [])) : TupL H q [] := ⟨[], h, rfl⟩
theorem TupL.len {H : Hp} {rows : List (List V)} {ts : List Addr} (h : ts.map H = rows.map fun r => some (HO.tup r)) : ts.length = rows.length := by
  have := congrArg List.length h
  rwa [List.length_map, List.length_map] at this
/-- one more is put behind -/
theorem TupL.snoc {H : Hp} {q t : Addr} {rows : List (List V)} {r : List V} (h : TupL H q rows) (ht : H t = some (.tup r)) :
    ∃ xs, H q = some (.lst xs) ∧ xs.length = rows.length ∧ TupL (upd H q (.lst (xs ++ [.ref t]))) q (rows ++ [r]) := by
  obtain ⟨ts, h1, h2⟩ := h
  refine ⟨ts.map V.ref, h1, by rw [List.length_map, TupL.len h2], ts ++ [t], by rw [upd_same, List.map_append, List.map_singleton], ?_⟩
  · have key : ∀ u v, H u = some (.tup v) → upd H q (.lst (ts.map V.ref ++ [.ref t])) u = some (.tup v) := fun u v e => by
      rw [upd_ne (fun z => by rw [z, h1] at e; cases e)]; exact e
    rw [List.map_append, List.map_append, map_keep h2 fun u v _ e => key u v e]
    congr 1
    show [upd H q _ t] = _
    rw [key t r ht]; rfl
def pairV (p : Nat × Nat) : List V := [.int (p.1 : Nat), .int (p.2 : Nat)]
abbrev TupP (H : Hp) (q : Addr) (l : List (Nat × Nat)) : Prop := TupL H q (l.map pairV)
/-! ### what a room tells -/
def thingsOn (m : PlM) (S : Tb) (i k : Nat) : List (Nat × Nat) := ((List.range k).filter fun j => (sfOf S i).tk.getD j false).map fun j => (i * m.L + j * (sfOf S i).z, (sfOf S i).z)
def thingsOf (m : PlM) (S : Tb) : List (Nat × Nat) := (pgs S m.n).flatMap fun i => thingsOn m S i (m.L / (sfOf S i).z)
def shelvesOf (S : Tb) (n : Nat) : List (Nat × Nat × Nat) := (pgs S n).map fun i => (i, (sfOf S i).z, cnt (sfOf S i).tk)
def tripV (p : Nat × Nat × Nat) : List V := [.int (p.1 : Nat), .int (p.2.1 : Nat), .int (p.2.2 : Nat)]
abbrev TupT (H : Hp) (q : Addr) (l : List (Nat × Nat × Nat)) : Prop := TupL H q (l.map tripV)
def sp_Room_things (K : PySem.W.Frag) (A : Ad) : Sp := fun vs H Q _ => ∃ (r pa z : Addr) (m : PlM) (F : Addr → Prop) (S : Tb) (cs : List Int), vs = [.ref r] ∧ RoomAt A H r pa z m F S cs ∧
  ∀ q H', H q = none → TupP H' q (thingsOf m S) → Same H H' → Q (.ref q) H'
def sp_Room_shelves (K : PySem.W.Frag) (A : Ad) : Sp := fun vs H Q _ => ∃ (r pa z : Addr) (m : PlM) (F : Addr → Prop) (S : Tb) (cs : List Int), vs = [.ref r] ∧ RoomAt A H r pa z m F S cs ∧
  ∀ q H', H q = none → TupT H' q (shelvesOf S m.n) → Same H H' → Q (.ref q) H'
def sp_Room_pile (K : PySem.W.Frag) (A : Ad) : Sp := fun vs H Q _ => ∃ (r pa z : Addr) (m : PlM) (F : Addr → Prop) (S : Tb) (cs : List Int), vs = [.ref r] ∧ RoomAt A H r pa z m F S cs ∧
  ∀ q H', H q = none → H' q = some (.lst (nV (nones S m.n))) → Same H H' → Q (.ref q) H'
theorem len_flatMap_le {α β : Type} (f : α → List β) (c : Nat) : ∀ (l : List α), (∀ x ∈ l, (f x).length ≤ c) → (l.flatMap f).length ≤ l.length * c
  | [], _ => by simp
  | a :: l, h => by
    have h1 := h a List.mem_cons_self
    have h2 := len_flatMap_le f c l fun x hx => h x (List.mem_cons_of_mem _ hx)
    rw [List.flatMap_cons, List.length_append, List.length_cons, Nat.succ_mul]
    omega
theorem thingsOn_len (m : PlM) (S : Tb) (i k : Nat) : (thingsOn m S i k).length ≤ k := by
  unfold thingsOn
  rw [List.length_map]
  refine Nat.le_trans (List.length_filter_le _ _) ?_
  rw [List.length_range]; exact Nat.le_refl _
theorem thingsOn_succ (m : PlM) (S : Tb) (i k : Nat) : thingsOn m S i (k + 1) = thingsOn m S i k ++ (if (sfOf S i).tk.getD k false = true then [(i * m.L + k * (sfOf S i).z, (sfOf S i).z)] else []) := by
  unfold thingsOn
  rw [List.range_succ, List.filter_append, List.map_append]
  congr 1
  cases h : (sfOf S i).tk.getD k false
  · rw [if_neg (by decide)]; simp only [List.filter, h]; rfl
  · rw [if_pos rfl]; simp only [List.filter, h]; rfl
theorem Same.up {H H' : Hp} {q : Addr} {o : HO} (h : Same H H') (n : H q = none) : Same H (upd H' q o) := fun b u e => by rw [upd_ne (ne_of_none e n)]; exact h b u e
section
variable {P : Program} {w : World} {K : PySem.W.Frag} {mg : Str → Option Value} {base : Heap} {A : Ad}
theorem ok_Room_pile (T : Tx K mg A) : Mf P w K mg base 1 A.Room "pile" ["self"] (sp_Room_pile K A) := by
  refine Dm.ok T.d_Room_pile sc_Room_pile bi_Room_pile (fun vs H Q E h => ?_) (fun f cdv Ar outer s H vs Q E hr h => ?_)
  · obtain ⟨r, pa, z, m, F, S, cs, rfl, _⟩ := h; rfl
  · obtain ⟨r, pa, z, m, F, S, cs, rfl, ⟨s, I, hb, rfl, rfl, rfl, rfl⟩, k⟩ := h
    refine ⟨_, (pss_one (ps_ret (pe_callB cr_sortedI (by rfl) T.z_sorted (by decide +kernel) (pa_cons (pe_fld (pv 0) rfl) pa_nil)))), ?_⟩
    have eb : H (s.ad .b) = some (.lst ((castI s.bare).map V.int)) := by rw [castI_V]; exact I.b
    refine ⟨_, rfl, I.fBare T ?_⟩
    refine ⟨_, _, rfl, SqL.of eb, fun ys q h1 h2 hq => ?_⟩
    have e : ys = castI (nones s.S m.n) := eq_le h2 (castI_le (nones_lt _ _)) (h1.trans (hb.map _))
    refine k q _ hq ?_ (sm_n hq)
    rw [upd_same, e, castI_V]
theorem ok_Room_shelves (T : Tx K mg A) : Mf P w K mg base 2 A.Room "shelves" ["self"] (sp_Room_shelves K A) := by
  refine Dm.ok T.d_Room_shelves sc_Room_shelves bi_Room_shelves (fun vs H Q E h => ?_) (fun f cdv Ar outer s H vs Q E hr h => ?_)
  · obtain ⟨r, pa, z, m, F, S, cs, rfl, _⟩ := h; rfl
  · obtain ⟨r, pa, z, m, F, S, cs, rfl, ⟨s, I, hb, rfl, rfl, rfl, rfl⟩, k⟩ := h
    refine ⟨_, (pss_one (ps_ret (pe_lc (own := [("page", 1)]) (g := gName 1) (tt := tYes) (te := (L2.tTup (tCons (tVar 1) (tCons (tFld K (tDGet (tFld K (tVar 0) "rows") (tVar 1)) "size") (tCons (tMeth A.Shelf "out" (sp_Shelf_out K A) [] E0 (tDGet (tFld K (tVar 0) "rows") (tVar 1)) tNil) tNil))))) rfl sc_Room_shelves.nd (pi_list (pe_callB (call_sortedDI rfl) (by rfl) T.z_sorted (by decide +kernel) (pa_cons (pe_fld (pv 0) rfl) pa_nil))) (blkOk_by (own := [("page", 1)]) (N := ["self", "page"]) (sc := defScope s_Room_shelves) (by decide +kernel)) (fun _ _ _ _ _ => pg_name (i := 1) sc_Room_shelves.nd rfl (Or.inl rfl)) (fun _ _ _ _ _ => pts_nil) (fun _ _ _ _ _ => (pe_tup (pa_cons (pv 1) (pa_cons (pe_fld (pe_dget (hu_of hr) (pe_fld (pv 0) rfl) (pv 1) (fun _ _ => rfl)) rfl) (pa_cons (pe_mf0 (ok_Shelf_out T) T.c_Shelf hr (by decide) (pe_dget (hu_of hr) (pe_fld (pv 0) rfl) (pv 1) (fun _ _ => rfl))) pa_nil)))))))), ?_⟩
    obtain ⟨g1, g2, g3⟩ := I.keysD I.pl.ok
    refine ⟨_, rfl, I.fRows T ⟨_, _, _, rfl, .inl I.d, g1, g2, fun ys p h1 h2 hp => ?_⟩⟩
    obtain rfl := g3 ys h1 h2
    rw [castI_V]
    refine ⟨p, rfl, ⟨_, SqL.of upd_same⟩, fun D hD => ?_⟩
    have hD0 : H D = none := by rw [upd_ne (fun e => by rw [e, upd_same] at hD; cases hD)] at hD; exact hD
    have npD : p ≠ D := fun e => by rw [e, upd_same] at hD; cases hD
    refine lc_list (K := K) (a := p) (xs := nV (pgs s.S m.n)) (fun i H' => Same H H' ∧ H' p = some (.lst (nV (pgs s.S m.n))) ∧ TupT H' D (((pgs s.S m.n).take i).map fun i => (i, (sfOf s.S i).z, cnt (sfOf s.S i).tk))) ⟨sm_new (sm_n hp) hD0, ?_, TupL.nil upd_same⟩ (fun i H' _ h => SqL.of h.2.1) ?_ ?_
    · rw [upd_ne npD]; exact upd_same
    · rintro i x H' hx ⟨sm, e1, e2⟩
      obtain ⟨q, hq, rfl⟩ := nV_at hx
      obtain ⟨y, hy⟩ := pgs_at hq
      have I' := I.same sm
      have S' := I'.sh hy
      obtain ⟨dx, ho⟩ := S'.ob
      refine ⟨rfl, ?_⟩
      refine ⟨_, rfl, _, rfl, I'.fRows T ⟨_, rfl, _, _, rfl, I'.dget hy, S'.fSize T ⟨_, rfl, I'.fRows T ⟨_, rfl, _, _, rfl, I'.dget hy, _, dx, _, rfl, ho, shF_no_out _ _ _, _, _, _, rfl, S', (by show 3 ≤ sizeLine; decide), fun t ht => ?_⟩⟩⟩⟩
      have e3 := e2.keep (sm_n (o := .tup (tripV (q, y.z, cnt y.tk))) ht)
      obtain ⟨xs, a1, a2, a3⟩ := e3.snoc (t := t) (r := tripV (q, y.z, cnt y.tk)) upd_same
      have nD : H' t = none := ht
      refine ⟨xs, a1, ?_, ?_, ?_, ?_⟩
      · rw [a2, List.length_map, List.length_map, List.length_take]
        exact Nat.lt_of_le_of_lt (Nat.le_trans (Nat.min_le_right _ _) (Nat.le_trans (pgs_len _ _) (plen m I.pl.ok))) (by decide)
      · exact Same.up (fun b o e => sm_n ht _ _ (sm _ _ e)) hD0
      · rw [upd_ne npD]; exact sm_n ht _ _ e1
      · have es : sfOf s.S q = y := sfOf_at hy
        rw [take_at hq, List.map_append, List.map_singleton, es]
        show TupL _ D ((_ ++ [(q, y.z, cnt y.tk)]).map tripV)
        rw [List.map_append]
        exact a3
    · rintro H' ⟨sm, e1, e2⟩
      have el : (nV (pgs s.S m.n)).length = (pgs s.S m.n).length := List.length_map _
      rw [el, List.take_length] at e2
      exact k D H' hD0 e2 sm
theorem ok_Room_things (T : Tx K mg A) : Mf P w K mg base 3 A.Room "things" ["self"] (sp_Room_things K A) := by
  refine Dm.ok T.d_Room_things sc_Room_things bi_Room_things (fun vs H Q E h => ?_) (fun f cdv Ar outer s H vs Q E hr h => ?_)
  · obtain ⟨r, pa, z, m, F, S, cs, rfl, _⟩ := h; rfl
  · obtain ⟨r, pa, z, m, F, S, cs, rfl, ⟨s, I, hb, rfl, rfl, rfl, rfl⟩, k⟩ := h
    refine ⟨_, (pss_cons (ps_set (i := 1) sc_Room_things.nd rfl (Or.inl rfl) (pe_lst pa_nil))
    (pss_cons (ps_for (passes_of rfl) rfl (pi_list (pe_callB (call_sortedDI rfl) (by rfl) T.z_sorted (by decide +kernel) (pa_cons (pe_fld (pv 0) rfl) pa_nil))) (pg_name (i := 2) sc_Room_things.nd rfl (Or.inl rfl))
    (pss_cons (ps_set (i := 3) sc_Room_things.nd rfl (Or.inl rfl) (pe_dget (hu_of hr) (pe_fld (pv 0) rfl) (pv 2) (fun _ _ => rfl)))
    (pss_one (ps_for (passes_of rfl) rfl (pi_range1 (by rfl) T.z_range (pa_cons (pe_mf (ok_Plan_per T) T.c_Plan hr (by decide) (pe_fld (pv 0) rfl) (pa_cons (pe_fld (pv 3) rfl) pa_nil)) pa_nil)) (pg_name (i := 4) sc_Room_things.nd rfl (Or.inl rfl))
    (pss_one (ps_if (pt_val (pe_mf (ok_Shelf_is_out T) T.c_Shelf hr (by decide) (pv 3) (pa_cons (pv 4) pa_nil))) (pss_one (ps_expr (pe_bm PySem.F.plainAttrs_list PySem.F.slot_list_append PySem.F.type_list_append mt_append (pv 1) (pa_cons (pe_tup (pa_cons (pe_mf (ok_Room_place_of T) T.c_Room hr (by decide) (pv 0) (pa_cons (pv 3) (pa_cons (pv 4) pa_nil))) (pa_cons (pe_fld (pv 3) rfl) pa_nil))) pa_nil))))
    pss_nil))))))
    (pss_one (ps_ret (pv 1))))), ?_⟩
    refine ⟨(by decide), fun D hD => ?_⟩
    have I0 := I.same (sm_n (o := .lst []) hD)
    obtain ⟨g1, g2, g3⟩ := I0.keysD I0.pl.ok
    refine ⟨_, rfl, I0.fRows T ⟨_, _, _, rfl, .inl I0.d, g1, g2, fun ys p h1 h2 hp => ?_⟩⟩
    obtain rfl := g3 ys h1 h2
    rw [castI_V]
    have npD : p ≠ D := fun e => by rw [e, upd_same] at hp; cases hp
    have hp0 : H p = none := by rw [upd_ne npD] at hp; exact hp
    have hok := I.pl.ok
    have len40 : ∀ i, (((pgs s.S m.n).take i).flatMap fun i => thingsOn m s.S i (m.L / (sfOf s.S i).z)).length ≤ 2400 := fun i => by
      refine Nat.le_trans (len_flatMap_le _ 60 _ fun x _ => Nat.le_trans (thingsOn_len _ _ _ _) (Nat.le_trans (Nat.div_le_self _ _) hok.L60)) ?_
      have : ((pgs s.S m.n).take i).length ≤ 40 := by
        rw [List.length_take]
        exact Nat.le_trans (Nat.min_le_right _ _) (Nat.le_trans (pgs_len _ _) (plen m hok))
      omega
    refine ⟨p, rfl, ⟨_, SqL.of upd_same⟩, for_list (K := K) (a := p) (xs := nV (pgs s.S m.n)) (fun i σ H' => Same H H' ∧ H' p = some (.lst (nV (pgs s.S m.n))) ∧ TupP H' D (((pgs s.S m.n).take i).flatMap fun i => thingsOn m s.S i (m.L / (sfOf s.S i).z)) ∧
      ∃ v2 v3 v4, σ = [some (.ref (s.ad .rm)), some (.ref D), v2, v3, v4]) ⟨sm_new (sm_n hD) hp0, upd_same, ?_, _, _, _, rfl⟩ (fun i σ H' _ h => SqL.of h.2.1) ?_ ?_⟩
    · refine TupL.nil ?_
      rw [upd_ne npD.symm]; exact upd_same
    · rintro i x σ H' hx ⟨sm, e1, e2, v2, v3, v4, rfl⟩
      obtain ⟨q, hq, rfl⟩ := nV_at hx
      obtain ⟨y, hy⟩ := pgs_at hq
      have I' := I.same sm
      have S' := I'.sh hy
      obtain ⟨x1, x2, x3⟩ := I.ok _ _ hy
      have hz := hok.zr x2
      have es : sfOf s.S q = y := sfOf_at hy
      obtain ⟨dxp, hpo⟩ := I'.pl.ob
      refine ⟨_, rfl, I'.fRows T ⟨_, rfl, _, _, rfl, I'.dget hy, ?_⟩⟩
      refine ⟨_, rfl, I'.fPlan T ⟨_, dxp, _, rfl, hpo, plF_no_per _ _, _, rfl, S'.fSize T ⟨pa, z, m, .int (y.z : Nat), rfl, I'.pl, .int _, fun h => absurd x2 (h _ rfl), fun i' hi' hm' => ?_⟩⟩⟩
      cases hi'
      rw [per_cast hok]
      have hd60 : m.L / y.z ≤ 60 := Nat.le_trans (Nat.div_le_self _ _) hok.L60
      refine ⟨_, rfl, (by generalize m.L / y.z = u at hd60 ⊢; omega), (by generalize m.L / y.z = u at hd60 ⊢; omega), for_range (lo := 0) (n := _) (fun j σ H' => Same H H' ∧ H' p = some (.lst (nV (pgs s.S m.n))) ∧ TupP H' D ((((pgs s.S m.n).take i).flatMap fun i => thingsOn m s.S i (m.L / (sfOf s.S i).z)) ++ thingsOn m s.S q j) ∧
        ∃ v4, σ = [some (.ref (s.ad .rm)), some (.ref D), some (.int (q : Nat)), some (.ref (s.ad (.p q))), v4]) ⟨sm, e1, ?_, _, rfl⟩ ?_ ?_⟩
      · have : thingsOn m s.S q 0 = [] := rfl
        rw [this, List.append_nil]; exact e2
      · rintro j σ H1 hj ⟨sm1, f1, f2, v4, rfl⟩
        have hj2 : j < m.L / y.z := by rw [Int.toNat_natCast] at hj; exact hj
        have I1 := I.same sm1
        have S1 := I1.sh hy
        obtain ⟨dx, ho⟩ := S1.ob
        refine ⟨_, rfl, _, dx, _, rfl, ho, shF_no_is_out _ _ _, _, rfl, _, _, _, _, rfl, S1, _, rfl, ?_⟩
        have eo : isOut (shM q y).tk (0 + (j : Int)) = y.tk.getD j false := by rw [Int.zero_add, isOut_nat]; rfl
        show if isOut (shM q y).tk (0 + (j : Int)) = true then _ else _
        rw [eo]
        have ts := thingsOn_succ m s.S q j
        rw [es] at ts
        refine iteB (fun h => ?_) (fun h => ?_)
        · rw [if_pos h] at ts
          have e0 : V.int (0 + (j : Int)) = V.int ((j : Nat) : Int) := by rw [Int.zero_add]
          refine ⟨_, rfl, .inl ⟨rfl, ?_⟩, ?_⟩
          · obtain ⟨us, u1, _⟩ := f2
            exact ⟨_, SqL.of u1⟩
          refine ⟨_, rfl, _, _, _, rfl, I1.rm, rmF_no (by decide) _ _ _ _, _, rfl, _, rfl, pa, z, m, s, q, j, y, by rw [← e0]; rfl, I1, hy, ?_⟩
          refine ⟨_, rfl, S1.fSize T ⟨(by show 2 ≤ sizeLine; decide), fun t ht => ?_⟩⟩
          have f3 := f2.keep (sm_n (o := .tup (pairV (plc m q j y, y.z))) ht)
          obtain ⟨xs, a1, a2, a3⟩ := f3.snoc (t := t) (r := pairV (plc m q j y, y.z)) upd_same
          refine ⟨D, xs, _, rfl, rfl, a1, ?_, ?_, ?_, ?_, _, rfl⟩
          · rw [a2, List.length_map, List.length_append]
            have l1 := len40 i
            have l2 := thingsOn_len m s.S q j
            exact Nat.lt_of_le_of_lt (by omega : _ ≤ 2460) (by decide)
          · exact Same.up (fun b o e => sm_n ht _ _ (sm1 _ _ e)) hD
          · rw [upd_ne npD]; exact sm_n ht _ _ f1
          · rw [ts, ← List.append_assoc]
            show TupL _ D ((_ ++ [(plc m q j y, y.z)]).map pairV)
            rw [List.map_append]
            exact a3
        · rw [if_neg (by rw [h]; decide), List.append_nil] at ts
          refine ⟨sm1, f1, ?_, _, rfl⟩
          rw [ts]; exact f2
      · rintro σ H1 ⟨sm1, f1, f2, v4, rfl⟩
        refine ⟨sm1, f1, ?_, _, _, _, rfl⟩
        rw [take_at hq, List.flatMap_append]
        have e5 : List.flatMap (fun i => thingsOn m s.S i (m.L / (sfOf s.S i).z)) [q] = thingsOn m s.S q (m.L / y.z) := by
          rw [List.flatMap_cons, List.flatMap_nil, List.append_nil, es]
        rw [e5]
        rw [Int.toNat_natCast] at f2
        exact f2
    · rintro σ H' ⟨sm, e1, e2, v2, v3, v4, rfl⟩
      have el : (nV (pgs s.S m.n)).length = (pgs s.S m.n).length := List.length_map _
      rw [el, List.take_length] at e2
      exact ⟨_, rfl, k D H' hD e2 sm⟩
end
end Sb
namespace Sb
open PySem PySem.Spec PyProof.Rows L2
/-- what room_for sums up -/
def rfStep (S : Tb) (k : Nat) (a : Nat × Nat) (i : Nat) : Nat × Nat := if (sfOf S i).z = k then (a.1 + (frs_ (sfOf S i).tk).length, a.2) else if cnt (sfOf S i).tk = 0 then (a.1, a.2 + 1) else a
def rfSum (S : Tb) (n k : Nat) : Nat × Nat := (pgs S n).foldl (rfStep S k) (0, (nones S n).length)
def roomFor (m : PlM) (S : Tb) (k : Nat) : Nat := (rfSum S m.n k).1 + (rfSum S m.n k).2 * (m.L / k)
theorem rf_le {S : Tb} {k : Nat} : ∀ (l : List Nat) (a : Nat × Nat), (l.foldl (rfStep S k) a).2 ≤ a.2 + l.length
  | [], a => Nat.le_refl _
  | i :: l, a => by
    have h := rf_le (S := S) (k := k) l (rfStep S k a i)
    have h2 : (rfStep S k a i).2 ≤ a.2 + 1 := by unfold rfStep; split; exact Nat.le_succ _; split; exact Nat.le_refl _; exact Nat.le_succ _
    rw [List.foldl_cons, List.length_cons]
    omega
theorem dead_p {i : Nat} (h : live (fun _ => none) (.p i)) : False := Bool.noConfusion (show false = true from h)
theorem dead_t {i : Nat} (h : live (fun _ => none) (.t i)) : False := Bool.noConfusion (show false = true from h)
def sp_Room_room_for (K : PySem.W.Frag) (A : Ad) : Sp := fun vs H Q E => ∃ (r pa z : Addr) (m : PlM) (F : Addr → Prop) (S : Tb) (cs : List Int) (v : V), vs = [.ref r, v] ∧ RoomAt A H r pa z m F S cs ∧ Kind K H v ∧
  (isWish v = false → E (.ref A.BadWish) none H) ∧ ∀ i, v = .int i → 1 ≤ i → (sizeFor m.sizes i = none → E (.ref A.TooLarge) none H) ∧
  ∀ k : Nat, sizeFor m.sizes i = some (k : Int) → ∀ H', Same H H' → Q (.int (roomFor m S k : Nat)) H'
section
variable {P : Program} {w : World} {K : PySem.W.Frag} {mg : Str → Option Value} {base : Heap} {A : Ad}
theorem ok_Room_init (T : Tx K mg A) : If_ P w K mg base 1 A.Room ["self", "plan"] (sp_Room_init K A) := by
  refine Di.ok T.d_Room_init sc_Room_init bi_Room_init (fun vs H Q E h => ?_) (fun f cdv Ar outer s H vs Q E hr h => ?_)
  · obtain ⟨r, pa, z, dx, m, rfl, _⟩ := h; rfl
  · obtain ⟨r, pa, z, dx, m, rfl, Pm, hr0, k⟩ := h
    refine ⟨_, (pss_cons (ps_fld (pv 0) (pv 1) rfl)
    (pss_cons (ps_fld (pv 0) pe_dnewK rfl)
    (pss_cons (ps_fld (pv 0) (pe_listRg rfl (by rfl) T.z_list (prg_1 (by rfl) T.z_range (pe_fld (pv 1) rfl))) rfl)
    (pss_one (ps_fld (pv 0) (pe_op op_rep (pe_lst (pa_cons pe_int pa_nil)) (pe_op op_mul (pe_fld (pv 1) rfl) (pe_fld (pv 1) rfl))) rfl))))), ?_⟩
    have mo := Pm.ok
    obtain ⟨dxp, hpo⟩ := Pm.ob
    have nrp : pa ≠ r := fun e => by rw [e, hr0] at hpo; injection hpo with q; injection q with q1 q2 q3; cases q3
    have nrz : z ≠ r := ne_of Pm.sz hr0 (by intro q; cases q)
    refine ⟨_, rfl, _, rfl, r, _, dx, _, rfl, hr0, T.c_Room, T.n_Room_plan, (by decide), ?_⟩
    refine fun d hd => ?_
    have nrd : r ≠ d := fun e => by rw [← e, upd_same] at hd; cases hd
    have hd0 : H d = none := by rw [upd_ne nrd.symm] at hd; exact hd
    refine ⟨_, rfl, r, _, dx, _, rfl, (by rw [upd_ne nrd]; exact upd_same), T.c_Room, T.n_Room_rows, (by show 1 < 1000; decide), ?_⟩
    refine ⟨_, rfl, ?_⟩
    have P2 : ∀ {H'}, (∀ b o, H b = some o → b ≠ r → H' b = some o) → PlAt A H' pa z m := fun h => Pm.keep fun b o e q => h b o e (by rcases q with q | q; rw [q]; exact nrp; rw [q]; exact nrz)
    have kd : ∀ {fs}, ∀ b o, H b = some o → b ≠ r → (upd (upd (upd H r (.ins A.Room dx (putF "plan" (.ref pa) []))) d (.dK [])) r (.ins A.Room dx fs)) b = some o := fun b o e n => by
      rw [upd_ne n, upd_ne (ne_of_none e hd0), upd_ne n]; exact e
    refine (P2 kd).fPages T ?_
    refine ⟨_, rfl, RgOk.of_le (by decide) (by have := mo.p2; omega) (by decide) (by have := mo.p1; omega), fun b hb => ?_⟩
    have nrb : r ≠ b := fun e => by rw [← e, upd_same] at hb; cases hb
    have ndb : d ≠ b := fun e => by rw [← e, upd_ne nrd.symm, upd_same] at hb; cases hb
    have hb0 : H b = none := by rw [upd_ne nrb.symm, upd_ne ndb.symm, upd_ne nrb.symm] at hb; exact hb
    refine ⟨_, rfl, r, _, dx, _, rfl, (by rw [upd_ne nrb]; exact upd_same), T.c_Room, T.n_Room_bare, (by show 2 < 1000; decide), ?_⟩
    -- self.cells = [0] * (plan.pages * plan.length)
    refine ⟨(by decide), fun l hl => ?_⟩
    have nrl : r ≠ l := fun e => by rw [← e, upd_same] at hl; cases hl
    have nbl : b ≠ l := fun e => by rw [← e, upd_ne nrb.symm, upd_same] at hl; cases hl
    have ndl : d ≠ l := fun e => by rw [← e, upd_ne nrd.symm, upd_ne ndb, upd_ne nrd.symm, upd_same] at hl; cases hl
    have hl0 : H l = none := by rw [upd_ne nrl.symm, upd_ne nbl.symm, upd_ne nrl.symm, upd_ne ndl.symm, upd_ne nrl.symm] at hl; exact hl
    have P3 : PlAt A (upd (upd (upd (upd (upd (upd H r (.ins A.Room dx (putF "plan" (.ref pa) []))) d (.dK [])) r (.ins A.Room dx (putF "rows" (.ref d) (putF "plan" (.ref pa) [])))) b (.lst (rgV 0 m.pages))) r (.ins A.Room dx (putF "bare" (.ref b) (putF "rows" (.ref d) (putF "plan" (.ref pa) []))))) l (.lst [.int 0])) pa z m := P2 fun c o e n => by
      rw [upd_ne (ne_of_none e hl0), upd_ne n, upd_ne (ne_of_none e hb0), upd_ne n, upd_ne (ne_of_none e hd0), upd_ne n]; exact e
    have h40 := plen m mo
    have h60 := mo.L60
    have hmul : m.pages * m.length = ((m.n * m.L : Nat) : Int) := by rw [mo.en, mo.eL, Int.natCast_mul]
    have h24 : m.n * m.L ≤ 2400 := Nat.le_trans (Nat.mul_le_mul h40 h60) (by decide)
    refine ⟨_, rfl, P3.fPages T ⟨_, rfl, P3.fLength T ⟨_, _, rfl, rfl, .inl ⟨by have := mo.p1; omega, by have := mo.p2; omega⟩, ?_⟩⟩⟩
    refine ⟨l, m.pages * m.length, _, rfl, rfl, upd_same, by rw [hmul]; omega, by rw [hmul]; omega, ?_, fun c hc => ?_⟩
    · rw [hmul, Int.toNat_natCast]
      show 1 * (m.n * m.L) ≤ sizeLine
      exact Nat.le_trans (by omega) (by decide : 2400 ≤ sizeLine)
    have nlc : l ≠ c := fun e => by rw [← e, upd_same] at hc; cases hc
    have nrc : r ≠ c := fun e => by rw [← e, upd_ne nrl, upd_same] at hc; cases hc
    have nbc : b ≠ c := fun e => by rw [← e, upd_ne nbl, upd_ne nrb.symm, upd_same] at hc; cases hc
    have ndc : d ≠ c := fun e => by rw [← e, upd_ne ndl, upd_ne nrd.symm, upd_ne ndb, upd_ne nrd.symm, upd_same] at hc; cases hc
    have hc0 : H c = none := by rw [upd_ne nlc.symm, upd_ne nrc.symm, upd_ne nbc.symm, upd_ne nrc.symm, upd_ne ndc.symm, upd_ne nrc.symm] at hc; exact hc
    refine ⟨_, rfl, r, _, dx, _, rfl, (by rw [upd_ne nrc, upd_ne nrl]; exact upd_same), T.c_Room, T.n_Room_cells, (by show 3 < 1000; decide), ?_⟩
    have fr : ∀ {fs}, ∀ q o, H q = some o → q ≠ r → (upd (upd (upd (upd (upd (upd (upd (upd H r (.ins A.Room dx (putF "plan" (.ref pa) []))) d (.dK [])) r (.ins A.Room dx (putF "rows" (.ref d) (putF "plan" (.ref pa) [])))) b (.lst (rgV 0 m.pages))) r (.ins A.Room dx (putF "bare" (.ref b) (putF "rows" (.ref d) (putF "plan" (.ref pa) []))))) l (.lst [.int 0])) c (.lst (List.replicate (m.pages * m.length).toNat [V.int 0]).flatten)) r (.ins A.Room dx fs)) q = some o := fun q o e n => by
      rw [upd_ne n, upd_ne (ne_of_none e hc0), upd_ne (ne_of_none e hl0), upd_ne n, upd_ne (ne_of_none e hb0), upd_ne n, upd_ne (ne_of_none e hd0), upd_ne n]; exact e
    let ad : Lb → Addr := fun x => match x with
      | .rm => r
      | .d => d
      | .b => b
      | _ => c
    have pg0 : pgs (fun _ => none) m.n = [] := by unfold pgs; simp
    have nn0 : nones (fun _ => none) m.n = List.range m.n := by unfold nones; simp
    have npa : ∀ {x : Addr}, H x = none → x ≠ pa ∧ x ≠ z := fun hx => ⟨(fun e => by rw [e, hpo] at hx; cases hx), (fun e => by rw [e, Pm.sz] at hx; cases hx)⟩
    refine k _ (foot ⟨ad, fun _ => dx, [], List.range m.n, fun _ => none, List.replicate (m.n * m.L) 0⟩) ⟨⟨ad, fun _ => dx, [], List.range m.n, fun _ => none, List.replicate (m.n * m.L) 0⟩, ⟨P2 fr, fun x hx => ?_, fun x y hx hy e => ?_, fun x hx => ?_, ?_, (fun i w hw => by cases hw), List.length_replicate ..⟩, ?_, rfl, rfl, rfl, rfl⟩ ?_ fr
    · cases x with
      | rm =>
        show upd _ r _ r = _
        rw [upd_same]
        show some (HO.ins A.Room dx _) = some (HO.ins A.Room dx (rmF pa d b c))
        rw [rmF_new]
      | d =>
        show upd _ r _ d = _
        rw [upd_ne nrd.symm, upd_ne ndc, upd_ne ndl, upd_ne nrd.symm, upd_ne ndb, upd_ne nrd.symm, upd_same]
        rfl
      | b =>
        show upd _ r _ b = _
        rw [upd_ne nrb.symm, upd_ne nbc, upd_ne nbl, upd_ne nrb.symm, upd_same]
        show some (HO.lst (rgV 0 m.pages)) = some (HO.lst (nV (List.range m.n)))
        unfold rgV
        rw [Int.sub_zero]
        congr 2
        refine List.map_congr_left fun i _ => ?_
        rw [Int.zero_add]
      | c =>
        show upd _ r _ c = _
        rw [upd_ne nrc.symm, upd_same]
        show some (HO.lst (List.replicate (m.pages * m.length).toNat [V.int 0]).flatten) = some (HO.lst ((List.replicate (m.n * m.L) (0 : Int)).map V.int))
        rw [hmul, Int.toNat_natCast, List.flatten_replicate_singleton, List.map_replicate]
      | p i => exact (dead_p hx).elim
      | t i => exact (dead_t hx).elim
    · cases x <;> cases y <;> first
        | rfl
        | exact (dead_p hx).elim
        | exact (dead_t hx).elim
        | exact (dead_p hy).elim
        | exact (dead_t hy).elim
        | exact absurd e nrd
        | exact absurd e nrd.symm
        | exact absurd e nrb
        | exact absurd e nrb.symm
        | exact absurd e nrc
        | exact absurd e nrc.symm
        | exact absurd e ndb
        | exact absurd e ndb.symm
        | exact absurd e ndc
        | exact absurd e ndc.symm
        | exact absurd e nbc
        | exact absurd e nbc.symm
    · cases x with
      | rm => exact ⟨fun e => nrp e.symm, fun e => nrz e.symm⟩
      | d => exact npa hd0
      | b => exact npa hb0
      | c => exact npa hc0
      | p i => exact (dead_p hx).elim
      | t i => exact (dead_t hx).elim
    · show ([] : List Nat).Perm (pgs (fun _ => none) m.n)
      rw [pg0]
    · show (List.range m.n).Perm (nones (fun _ => none) m.n)
      rw [nn0]
    · rintro a ⟨x, hx, rfl⟩
      cases x with
      | rm => exact .inl rfl
      | d => exact .inr hd0
      | b => exact .inr hb0
      | c => exact .inr hc0
      | p i => exact (dead_p hx).elim
      | t i => exact (dead_t hx).elim
theorem ok_Room_trim (T : Tx K mg A) : Mf P w K mg base 3 A.Room "trim" ["self"] (sp_Room_trim K A) := by
  refine Dm.ok T.d_Room_trim sc_Room_trim bi_Room_trim (fun vs H Q E h => ?_) (fun f cdv Ar outer s H vs Q E hr h => ?_)
  · obtain ⟨r, pa, z, m, F, S, cs, rfl, _⟩ := h; rfl
  · obtain ⟨r, pa, z, m, F, S, cs, rfl, ⟨s, I, hb, rfl, rfl, rfl, rfl⟩, k⟩ := h
    refine ⟨_, (pss_cons (ps_set (i := 1) sc_Room_trim.nd rfl (Or.inl rfl) (pe_mf0 (ok_Room_empties T) T.c_Room hr (by decide) (pv 0)))
    (pss_cons (ps_for (passes_of rfl) rfl (pi_list (pv 1)) (pg_name (i := 2) sc_Room_trim.nd rfl (Or.inl rfl))
    (pss_one (ps_expr (pe_mf (ok_Room_give_page T) T.c_Room hr (by decide) (pv 0) (pa_cons (pv 2) pa_nil)))))
    (pss_one (ps_ret (pe_callB call_len_seq (by rfl) T.z_len (by decide +kernel) (pa_cons (pv 1) pa_nil)))))), ?_⟩
    refine ⟨_, rfl, _, _, _, rfl, I.rm, rmF_no (by decide) _ _ _ _, pa, z, m, s, rfl, I, fun q H1 hq h1 sm => ?_⟩
    have nq : ¬ foot s q := fun ⟨l, hl, e⟩ => by have := I.at_ l hl; rw [e, hq] at this; cases this
    refine ⟨_, rfl, q, rfl, ⟨_, SqL.of h1⟩, for_list (K := K) (a := q) (xs := nV (emps s.S m.n)) (fun i σ H' => ∃ (s1 : Hs) (v : Option V), σ = [some (.ref (s.ad .rm)), some (.ref q), v] ∧ RmI A H' pa z m s1 ∧ s1.bare.Perm (nones s1.S m.n) ∧ s1.ad = s.ad ∧ s1.cs = s.cs ∧ s1.S = dropAll s.S ((emps s.S m.n).take i) ∧ Stp (foot s) H (foot s1) H' ∧ H' q = some (.lst (nV (emps s.S m.n))) ∧ ¬ foot s1 q)
      ⟨s, _, rfl, I.same sm, hb, rfl, rfl, rfl, Stp.same sm, h1, nq⟩ (fun i σ H' _ h => by obtain ⟨s1, v, _, _, _, _, _, _, _, h, _⟩ := h; exact SqL.of h) ?_ ?_⟩
    · rintro i x σ H' hx ⟨s1, v, rfl, J, hb1, eA, eC, eS, st, hq1, nq1⟩
      obtain ⟨t, ht, rfl⟩ := nV_at hx
      have htm := mem_emps.mp (List.mem_of_getElem? ht)
      have hnd := nodup_lt (emps_lt s.S m.n)
      have hnt : t ∉ (emps s.S m.n).take i := fun h => by
        obtain ⟨i1, hi1⟩ := List.getElem?_eq_some_iff.mp ht
        obtain ⟨j, hj, e⟩ := List.getElem_of_mem h
        have hj2 : j < i := by rw [List.length_take] at hj; omega
        rw [List.getElem_take] at e
        exact absurd (e.trans hi1.symm) (List.pairwise_iff_getElem.mp (List.nodup_iff_pairwise_ne.mp hnd) j i (by omega) i1 hj2)
      have his : (s1.S t).isSome = true := by
        rw [eS, dropAll_at, if_neg hnt]
        have := htm.2
        unfold isEmp at this
        cases e : s.S t with
        | none => rw [e] at this; cases this
        | some x => rfl
      rw [← eA]
      refine ⟨_, rfl, _, _, _, rfl, J.rm, rmF_no (by decide) _ _ _ _, _, rfl, pa, z, m, s1, t, rfl, J, hb1, his, fun s2 H2 J2 hb2 eS2 eC2 eA2 st2 => ?_⟩
      have nq2 : ¬ foot s2 q := fun h => by
        rcases st2.2 q h with h | h
        · exact nq1 h
        · rw [hq1] at h; cases h
      refine ⟨s2, _, rfl, J2, hb2, eA2, eC2.trans eC, ?_, st.trans st2, st2.1 _ _ hq1 nq1, nq2⟩
      rw [eS2, eS, take_at ht]
      unfold dropAll
      rw [foldl_snoc']
    · rintro σ H' ⟨s1, v, rfl, J, hb1, eA, eC, eS, st, hq1, nq1⟩
      have el : (nV (emps s.S m.n)).length = (emps s.S m.n).length := List.length_map _
      rw [el, List.take_length] at eS
      refine ⟨_, rfl, q, _, rfl, .inl (SqL.of hq1), ?_⟩
      have := k H' (foot s1) ⟨s1, J, hb1, by rw [eA], eS, eC, rfl⟩ st
      rw [← el] at this
      exact this
theorem ok_Room_give_back (T : Tx K mg A) : Mf P w K mg base 3 A.Room "give_back" ["self", "place"] (sp_Room_give_back K A) := by
  refine Dm.ok T.d_Room_give_back sc_Room_give_back bi_Room_give_back (fun vs H Q E h => ?_) (fun f cdv Ar outer s H vs Q E hr h => ?_)
  · obtain ⟨r, pa, z, m, F, S, cs, p, rfl, _⟩ := h; rfl
  · obtain ⟨r, pa, z, m, F, S, cs, p, rfl, ⟨s, I, hb, rfl, rfl, rfl, rfl⟩, kN, kk⟩ := h
    refine ⟨_, (pss_cons (ps_set (i := 2) sc_Room_give_back.nd rfl (Or.inl rfl) (pe_mfS (ok_Room_found T) T.c_Room hr (by decide) (takes_of rfl rfl rfl rfl) (pv 0) (pa_cons (pv 1) pa_nil)))
    (pss_cons (ps_set (i := 3) sc_Room_give_back.nd rfl (Or.inr rfl) (pe_ix ix_tup (pv 2) pe_int (fun _ _ => rfl)))
    (pss_cons (ps_expr (pe_mfS (ok_Shelf_give T) T.c_Shelf hr (by decide) (takes_of rfl rfl rfl rfl) (pv 3) (pa_cons (pe_ix ix_tup (pv 2) pe_int (fun _ _ => rfl)) pa_nil)))
    (pss_cons (ps_setLc (i := 4) (own := [("page", 5)]) (g := gName 5) (tt := (tTest (tOp rEq (tFld K (tDGet (tFld K (tVar 0) "rows") (tVar 5)) "size") (tFld K (tVar 3) "size")))) (te := (tVar 5)) rfl sc_Room_give_back.nd rfl rfl (sw_true rfl rfl rfl (by decide +kernel)) (pi_list (pe_mf0 (ok_Room_empties T) T.c_Room hr (by decide) (pv 0))) (blkOk_by (own := [("page", 5)]) (N := ["self", "place", "pair", "shelf", "others", "page"]) (sc := defScope s_Room_give_back) (by decide +kernel)) (fun _ _ _ _ _ => pg_name (i := 5) sc_Room_give_back.nd rfl (Or.inl rfl)) (fun _ _ _ _ _ => pts_one (pt_cmpR op_eq (pe_fld (pe_dget (hu_of hr) (pe_fld (pv 0) rfl) (pv 5) (fun _ _ => rfl)) rfl) (pe_fld (pv 3) rfl) (nomark _))) (fun _ _ _ _ _ => (pv 5)))
    (pss_one (ps_if (PW.pt (pw_and (pt_cmpR op_eq (pe_mf0 (ok_Shelf_out T) T.c_Shelf hr (by decide) (pv 3)) pe_int (nomark _)) (pw_and1 (pt_cmpR op_gt (pe_callB call_len_seq (by rfl) T.z_len (by decide +kernel) (pa_cons (pv 4) pa_nil)) pe_int (nomark _))))) (pss_one (ps_expr (pe_mf (ok_Room_give_page T) T.c_Room hr (by decide) (pv 0) (pa_cons (pe_fld (pv 3) rfl) pa_nil))))
    pss_nil)))))), ?_⟩
    refine ⟨_, rfl, _, _, _, rfl, I.rm, rmF_no (by decide) _ _ _ _, _, rfl, pa, z, m, s, p, rfl, I, kN, fun i j q hl hq => ?_⟩
    obtain ⟨x, hx, hj⟩ := locate_ok hl
    have I1 : RmI A (upd H q (.tup [.ref (s.ad (.p i)), .int (j : Nat)])) pa z m s := I.same (sm_n hq)
    have S1 := I1.sh hx
    obtain ⟨dx, ho⟩ := S1.ob
    obtain ⟨x1, x2, x3⟩ := I.ok i x hx
    have hz := I.pl.ok.zr x2
    have xl : x.tk.length ≤ 1000 := by rw [x3]; exact Nat.le_trans (Nat.div_le_self _ _) (by have := I.pl.ok.L60; omega)
    have eo : isOut (shM i x).tk ((j : Nat) : Int) = true := by
      rw [isOut_nat]
      show x.tk.getD j false = true
      rw [List.getD_eq_getElem?_getD, hj]; rfl
    refine ⟨_, rfl, q, _, _, .ref (s.ad (.p i)), rfl, rfl, .inl (.inl upd_same), at_of (j := 0) (by decide) rfl, ?_⟩
    refine ⟨_, rfl, _, dx, _, rfl, ho, shF_no_give _ _ _, _, rfl, q, _, _, .int (j : Nat), rfl, rfl, .inl (.inl upd_same), at_of (j := 1) (by decide) rfl, ?_⟩
    refine ⟨_, _, _, _, rfl, S1, xl, (fun h => by rw [eo] at h; cases h), fun H2 _ sh2 b2 => ?_⟩
    rw [Int.toNat_natCast] at sh2
    obtain ⟨dx2, J⟩ := I1.putSh (y := ⟨x.z, x.tk.set j false⟩) hx sh2 b2 rfl (List.length_set ..)
    have eG : updT s.S i (some ⟨x.z, x.tk.set j false⟩) = giveS s.S i j := by unfold giveS; rw [sfOf_at hx]
    rw [eG] at J
    have eGi : giveS s.S i j i = some ⟨x.z, x.tk.set j false⟩ := by rw [← eG]; exact updT_same
    have st1 : Stp (foot s) H (foot { s with dx := dx2, S := giveS s.S i j }) H2 := by
      have := (Stp.same (F := foot s) (sm_n (o := .tup [.ref (s.ad (.p i)), .int (j : Nat)]) hq)).trans (Stp.but2 (y := ⟨x.z, x.tk.set j false⟩) (dx := dx2) hx b2)
      rw [eG] at this
      exact this
    have hb2 : s.bare.Perm (nones (giveS s.S i j) m.n) := by
      have e : nones (giveS s.S i j) m.n = nones s.S m.n := by
        unfold nones
        refine List.filter_congr fun q _ => ?_
        rw [← eG]
        by_cases h : q = i
        · subst h; rw [updT_same, hx]; rfl
        · rw [updT_ne h]
      rw [e]; exact hb
    -- others
    refine ⟨_, rfl, _, _, _, rfl, J.rm, rmF_no (by decide) _ _ _ _, pa, z, m, { s with dx := dx2, S := giveS s.S i j }, rfl, J, fun u H3 hu h3 sm3 => ?_⟩
    have J3 := J.same sm3
    refine ⟨u, rfl, ⟨_, SqL.of h3⟩, fun D hD => ?_⟩
    have nuD : u ≠ D := fun e => by rw [e, hD] at h3; cases h3
    refine lc_list (K := K) (a := u) (xs := nV (emps (giveS s.S i j) m.n)) (fun i' H' => Same H3 H' ∧ H' D = some (.lst (nV (((emps (giveS s.S i j) m.n).take i').filter fun q => decide ((sfOf (giveS s.S i j) q).z = x.z))))) ⟨sm_n hD, upd_same⟩ (fun i' H' _ h => SqL.of (h.1 _ _ h3)) ?_ ?_
    · rintro i' v H' hx' ⟨sm4, e4⟩
      obtain ⟨t, ht, rfl⟩ := nV_at hx'
      have htm := mem_emps.mp (List.mem_of_getElem? ht)
      obtain ⟨y, hy⟩ : ∃ y, giveS s.S i j t = some y := by
        have := htm.2
        unfold isEmp at this
        cases e : giveS s.S i j t with
        | none => rw [e] at this; cases this
        | some y => exact ⟨y, rfl⟩
      have J4 := J3.same sm4
      have Sy := J4.sh (i := t) hy
      have Sx := J4.sh (i := i) eGi
      refine ⟨rfl, ?_⟩
      refine ⟨_, rfl, J4.fRows T ⟨_, rfl, _, _, rfl, J4.dget hy, Sy.fSize T ⟨_, rfl, Sx.fSize T ⟨rfl, _, rfl, ?_⟩⟩⟩⟩
      have ey : sfOf (giveS s.S i j) t = y := sfOf_at hy
      have et := take_at ht
      refine iteD (fun h => ?_) (fun h => ?_)
      · have h' : y.z = x.z := by
          have h'' : V.int ((y.z : Nat) : Int) = V.int ((x.z : Nat) : Int) := h
          injection h'' with h''
          exact Int.ofNat.inj h''
        refine ⟨_, rfl, _, e4, ?_, Same.up sm4 hD, ?_⟩
        · rw [List.length_map]
          refine Nat.lt_of_le_of_lt (List.length_filter_le _ _) ?_
          rw [List.length_take]
          exact Nat.lt_of_le_of_lt (Nat.le_trans (Nat.min_le_right _ _) (Nat.le_trans (emps_len _ _) (plen m I.pl.ok))) (by decide)
        · rw [upd_same, et, List.filter_append]
          have : List.filter (fun q => decide ((sfOf (giveS s.S i j) q).z = x.z)) [t] = [t] := by simp [List.filter, ey, h']
          rw [this]
          simp
      · have h' : ¬ y.z = x.z := fun e => h (by show V.int ((y.z : Nat) : Int) = V.int ((x.z : Nat) : Int); rw [e])
        refine ⟨sm4, ?_⟩
        rw [e4, et, List.filter_append]
        have : List.filter (fun q => decide ((sfOf (giveS s.S i j) q).z = x.z)) [t] = [] := by simp [List.filter, ey, h']
        rw [this, List.append_nil]
    · rintro H4 ⟨sm4, e4⟩
      have el : (nV (emps (giveS s.S i j) m.n)).length = (emps (giveS s.S i j) m.n).length := List.length_map _
      rw [el, List.take_length] at e4
      have J4 := J3.same sm4
      have Sx := J4.sh (i := i) eGi
      obtain ⟨dx4, ho4⟩ := Sx.ob
      have st4 : Stp (foot s) H (foot { s with dx := dx2, S := giveS s.S i j }) H4 := st1.trans (Stp.same fun b o e => sm4 _ _ (sm3 _ _ e))
      have eoth : (emps (giveS s.S i j) m.n).filter (fun q => decide ((sfOf (giveS s.S i j) q).z = x.z)) = others (giveS s.S i j) m.n (sfOf s.S i).z := by unfold others; rw [sfOf_at hx]
      rw [eoth] at e4
      have eGc : sfOf (giveS s.S i j) i = ⟨x.z, x.tk.set j false⟩ := sfOf_at eGi
      have noG : ¬ (cnt (sfOf (giveS s.S i j) i).tk = 0 ∧ 1 < (others (giveS s.S i j) m.n (sfOf s.S i).z).length) → Q .non H4 := fun h => by
        refine kk i j H4 _ hl ⟨_, J4, hb2, rfl, ?_, rfl, rfl⟩ st4
        show giveS s.S i j = _
        unfold giveT
        rw [if_neg h]
      refine ⟨_, rfl, _, dx4, _, rfl, ho4, shF_no_out _ _ _, _, _, _, rfl, Sx, rfl, _, rfl, ?_⟩
      refine iteD (fun h => ?_) (fun h => ?_)
      rotate_left
      · refine noG fun h2 => h ?_
        have := h2.1
        rw [eGc] at this
        show V.int ((cnt (x.tk.set j false) : Nat) : Int) = V.int 0
        rw [this]; rfl
      have h0 : cnt (sfOf (giveS s.S i j) i).tk = 0 := by
        rw [eGc]
        have h' : V.int ((cnt (x.tk.set j false) : Nat) : Int) = V.int 0 := h
        injection h' with h'
        show cnt (x.tk.set j false) = 0
        omega
      refine ⟨_, rfl, D, _, rfl, .inl (SqL.of e4), _, _, rfl, rfl, _, rfl, ?_⟩
      refine iteD (fun h2 => ?_) (fun h2 => ?_)
      · have h2' : 1 < (others (giveS s.S i j) m.n (sfOf s.S i).z).length := by
          rw [List.length_map] at h2; omega
        refine ⟨_, rfl, _, _, _, rfl, J4.rm, rmF_no (by decide) _ _ _ _, _, rfl, Sx.fPage T ⟨pa, z, m, { s with dx := dx2, S := giveS s.S i j }, i, rfl, J4, hb2, (by show (giveS s.S i j i).isSome = true; rw [eGi]; rfl), fun s5 H5 J5 hb5 eS5 eC5 eA5 st5 => ?_⟩⟩
        refine kk i j H5 _ hl ⟨s5, J5, hb5, by rw [eA5], ?_, by rw [eC5], rfl⟩ (st4.trans st5)
        rw [eS5]
        unfold giveT
        rw [if_pos ⟨h0, h2'⟩]
      · refine noG fun h3 => h2 ?_
        rw [List.length_map]
        have := h3.2
        omega
theorem ok_Room_room_for (T : Tx K mg A) : Mf P w K mg base 3 A.Room "room_for" ["self", "places"] (sp_Room_room_for K A) := by
  refine Dm.ok T.d_Room_room_for sc_Room_room_for bi_Room_room_for (fun vs H Q E h => ?_) (fun f cdv Ar outer s H vs Q E hr h => ?_)
  · obtain ⟨r, pa, z, m, F, S, cs, v, rfl, _⟩ := h; rfl
  · obtain ⟨r, pa, z, m, F, S, cs, v, rfl, ⟨s, I, hb, rfl, rfl, rfl, rfl⟩, kv, kB, kk⟩ := h
    refine ⟨_, (pss_cons (ps_set (i := 2) sc_Room_room_for.nd rfl (Or.inl rfl) (pe_mfS (ok_Plan_size_for T) T.c_Plan hr (by decide) (takes_of rfl rfl rfl rfl) (pe_fld (pv 0) rfl) (pa_cons (pv 1) pa_nil)))
    (pss_cons (ps_set (i := 3) sc_Room_room_for.nd rfl (Or.inl rfl) (pe_callB call_len_seq (by rfl) T.z_len (by decide +kernel) (pa_cons (pe_fld (pv 0) rfl) pa_nil)))
    (pss_cons (ps_set (i := 4) sc_Room_room_for.nd rfl (Or.inl rfl) pe_int)
    (pss_cons (ps_for (passes_of rfl) rfl (pi_list (pe_callB (call_sortedDI rfl) (by rfl) T.z_sorted (by decide +kernel) (pa_cons (pe_fld (pv 0) rfl) pa_nil))) (pg_name (i := 5) sc_Room_room_for.nd rfl (Or.inl rfl))
    (pss_cons (ps_set (i := 6) sc_Room_room_for.nd rfl (Or.inl rfl) (pe_dget (hu_of hr) (pe_fld (pv 0) rfl) (pv 5) (fun _ _ => rfl)))
    (pss_one (ps_if (pt_cmpR op_eq (pe_fld (pv 6) rfl) (pv 2) (nomark _)) (pss_one (ps_set (i := 4) sc_Room_room_for.nd rfl (Or.inl rfl) (pe_op op_add (pv 4) (pe_callB call_len_seq (by rfl) T.z_len (by decide +kernel) (pa_cons (pe_mf0 (ok_Shelf_free T) T.c_Shelf hr (by decide) (pv 6)) pa_nil)))))
    (pss_one (ps_if (pt_cmpR op_eq (pe_mf0 (ok_Shelf_out T) T.c_Shelf hr (by decide) (pv 6)) pe_int (nomark _)) (pss_one (ps_set (i := 3) sc_Room_room_for.nd rfl (Or.inl rfl) (pe_op op_add (pv 3) pe_int)))
    pss_nil))))))
    (pss_one (ps_ret (pe_op op_add (pv 4) (pe_op op_mul (pv 3) (pe_mfS (ok_Plan_per T) T.c_Plan hr (by decide) (takes_of rfl rfl rfl rfl) (pe_fld (pv 0) rfl) (pa_cons (pv 2) pa_nil)))))))))), ?_⟩
    obtain ⟨dxp, hpo⟩ := I.pl.ob
    refine ⟨_, rfl, I.fPlan T ⟨_, dxp, _, rfl, hpo, plF_no_size_for _ _, _, rfl, pa, z, m, v, rfl, I.pl, kv, kB, fun i hi h1 => ⟨(kk i hi h1).1, fun k0 hk0 => ?_⟩⟩⟩
    have hmem := sizeFor_mem hk0
    obtain ⟨k, rfl⟩ := I.pl.ok.nat hmem
    have kQ := (kk i hi h1).2 k hk0
    have hz := I.pl.ok.zr hmem
    have lb : (nV s.bare).length = (nones s.S m.n).length := by rw [List.length_map, hb.length_eq]
    refine ⟨_, rfl, I.fBare T ⟨_, _, rfl, .inl (SqL.of I.b), ?_⟩⟩
    rw [lb]
    obtain ⟨g1, g2, g3⟩ := I.keysD I.pl.ok
    refine ⟨_, rfl, I.fRows T ⟨_, _, _, rfl, .inl I.d, g1, g2, fun ys p h1 h2 hp => ?_⟩⟩
    obtain rfl := g3 ys h1 h2
    rw [castI_V]
    refine ⟨p, rfl, ⟨_, SqL.of upd_same⟩, for_list (K := K) (a := p) (xs := nV (pgs s.S m.n)) (fun i σ H' => Same H H' ∧ H' p = some (.lst (nV (pgs s.S m.n))) ∧ ∃ v5 v6, σ = [some (.ref (s.ad .rm)), some v, some (.int (k : Nat)), some (.int ((((pgs s.S m.n).take i).foldl (rfStep s.S k) (0, (nones s.S m.n).length)).2 : Nat)), some (.int ((((pgs s.S m.n).take i).foldl (rfStep s.S k) (0, (nones s.S m.n).length)).1 : Nat)), v5, v6]) ⟨sm_n hp, upd_same, _, _, rfl⟩ (fun i σ H' _ h => SqL.of h.2.1) ?_ ?_⟩
    · rintro i' x σ H' hx ⟨sm, e1, v5, v6, rfl⟩
      obtain ⟨q, hq, rfl⟩ := nV_at hx
      obtain ⟨y, hy⟩ := pgs_at hq
      have I' := I.same sm
      have Sy := I'.sh hy
      obtain ⟨dx, ho⟩ := Sy.ob
      obtain ⟨y1, y2, y3⟩ := I.ok q y hy
      have yl : y.tk.length ≤ 1000 := by rw [y3]; exact Nat.le_trans (Nat.div_le_self _ _) (by have := I.pl.ok.L60; omega)
      have et : ((pgs s.S m.n).take (i' + 1)).foldl (rfStep s.S k) (0, (nones s.S m.n).length) = rfStep s.S k (((pgs s.S m.n).take i').foldl (rfStep s.S k) (0, (nones s.S m.n).length)) q := by rw [take_at hq, foldl_snoc']
      generalize ((pgs s.S m.n).take i').foldl (rfStep s.S k) (0, (nones s.S m.n).length) = a at et ⊢
      rw [et]
      have es : sfOf s.S q = y := sfOf_at hy
      refine ⟨_, rfl, I'.fRows T ⟨_, rfl, _, _, rfl, I'.dget hy, ?_⟩⟩
      refine ⟨_, rfl, Sy.fSize T ⟨_, rfl, rfl, _, rfl, ?_⟩⟩
      refine iteD (fun h => ?_) (fun h => ?_)
      · have h' : y.z = k := by
          have h'' : V.int ((y.z : Nat) : Int) = V.int ((k : Nat) : Int) := h
          injection h'' with h''
          exact Int.ofNat.inj h''
        refine ⟨_, rfl, _, rfl, _, dx, _, rfl, ho, shF_no_free _ _ _, _, _, _, rfl, Sy, yl, fun u H1 hu h1 sm1 => ?_⟩
        refine ⟨u, _, rfl, .inl (SqL.of h1), _, _, rfl, rfl, ?_⟩
        refine ⟨fun b o e => sm1 _ _ (sm _ _ e), sm1 _ _ e1, some (.int (q : Nat)), some (.ref (s.ad (.p q))), ?_⟩
        unfold rfStep
        rw [es, if_pos h']
        rw [List.length_map]
        rfl
      · have h' : ¬ y.z = k := fun e => h (by show V.int ((y.z : Nat) : Int) = V.int ((k : Nat) : Int); rw [e])
        refine ⟨_, rfl, _, dx, _, rfl, ho, shF_no_out _ _ _, _, _, _, rfl, Sy, rfl, _, rfl, ?_⟩
        refine iteD (fun h2 => ?_) (fun h2 => ?_)
        · have h2' : cnt y.tk = 0 := by
            have h2'' : V.int ((cnt y.tk : Nat) : Int) = V.int 0 := h2
            injection h2'' with h2''
            omega
          refine ⟨_, rfl, _, _, rfl, rfl, sm, e1, some (.int (q : Nat)), some (.ref (s.ad (.p q))), ?_⟩
          unfold rfStep
          rw [es, if_neg h', if_pos h2']
          rfl
        · have h2' : ¬ cnt y.tk = 0 := fun e => h2 (by show V.int ((cnt y.tk : Nat) : Int) = V.int 0; rw [e]; rfl)
          refine ⟨sm, e1, some (.int (q : Nat)), some (.ref (s.ad (.p q))), ?_⟩
          unfold rfStep
          rw [es, if_neg h', if_neg h2']
          rfl
    · rintro σ H' ⟨sm, e1, v5, v6, rfl⟩
      have el : (nV (pgs s.S m.n)).length = (pgs s.S m.n).length := List.length_map _
      rw [el, List.take_length]
      have I' := I.same sm
      obtain ⟨dxp', hpo'⟩ := I'.pl.ob
      have hrf : (pgs s.S m.n).foldl (rfStep s.S k) (0, (nones s.S m.n).length) = rfSum s.S m.n k := rfl
      rw [hrf]
      refine ⟨_, rfl, _, rfl, _, rfl, I'.fPlan T ⟨_, dxp', _, rfl, hpo', plF_no_per _ _, _, rfl, pa, z, m, .int (k : Nat), rfl, I'.pl, .int _, fun h => absurd hmem (h _ rfl), fun w hw hwm => ?_⟩⟩
      cases hw
      rw [per_cast I.pl.ok]
      have b80 : (rfSum s.S m.n k).2 ≤ 80 := by
        have h1 := rf_le (S := s.S) (k := k) (pgs s.S m.n) (0, (nones s.S m.n).length)
        have h2 := pgs_len s.S m.n
        have h3 := nones_len s.S m.n
        have h4 := plen m I.pl.ok
        show ((pgs s.S m.n).foldl (rfStep s.S k) (0, (nones s.S m.n).length)).2 ≤ 80
        dsimp only at h1
        omega
      refine ⟨_, _, rfl, rfl, .inl ⟨?_, ?_⟩, _, _, rfl, rfl, ?_⟩
      · show -(2 ^ 64) < (((rfSum s.S m.n k).2 : Nat) : Int); omega
      · show (((rfSum s.S m.n k).2 : Nat) : Int) < 2 ^ 64; omega
      have := kQ H' sm
      have e : V.int (roomFor m s.S k : Nat) = V.int (((rfSum s.S m.n k).1 : Nat) + ((rfSum s.S m.n k).2 : Nat) * ((m.L / k : Nat) : Int)) := by
        unfold roomFor
        rw [Int.natCast_add, Int.natCast_mul]
      rw [e] at this
      exact this
end
end Sb
/-! sorted(xs, key=f), f a def of one's own that answers pairs of whole numbers -/
namespace Sb
open PySem PySem.Spec PyProof.Rows L2
abbrev Cx2 (X : Cx) : Cx := { X with A := X.A.in1.in1, xe := fun _ _ => False }
theorem Ok2 {X : Cx} (o : X.Ok) : (Cx2 X).Ok :=
  { mod := o.mod, kind := o.kind, glob := o.glob, blt := o.blt, above := o.above, inj := o.inj, has := o.has, cab := o.cab, hd := o.hd, frames := o.frames, stk := o.stk, exf := o.exf, bs := o.bs, bsz := o.bsz, noex := o.noex, exfs := o.exfs, funs := o.funs, frf := o.frf }
theorem Ok1 {X : Cx} (o : (Cx2 X).Ok) : X.Ok :=
  { mod := o.mod, kind := o.kind, glob := o.glob, blt := o.blt, above := o.above, inj := o.inj, has := o.has, cab := o.cab, hd := o.hd, frames := o.frames, stk := o.stk, exf := o.exf, bs := o.bs, bsz := o.bsz, noex := o.noex, exfs := o.exfs, funs := o.funs, frf := o.frf }
section
variable {X : Cx} {pins : List (Addr × Obj)} {σ : L2.St} {H : Hp} {s : Shared}
theorem In2 (I : L2.Inv X pins σ H s) : L2.Inv (Cx2 X) pins σ H s := ⟨Ok2 I.ok, I.os, I.bare, I.base, I.loc, I.cell, I.free, I.freeC, I.pin, I.hok, I.len⟩
theorem Out2 (I : L2.Inv (Cx2 X) pins σ H s) : L2.Inv X pins σ H s := ⟨Ok1 I.ok, I.os, I.bare, I.base, I.loc, I.cell, I.free, I.freeC, I.pin, I.hok, I.len⟩
/-- a tracked list is written whole -/
theorem put_list {a : Addr} {xs ys : List V} {vs ws : List Value} {n : Nat} {t : Nat} (I : L2.Inv X pins σ H s) (ha : H a = some (.lst xs)) (hg : s.heap.get? a = some (seqObj "list" vs.toArray n)) (g : Array Value → Array Value) (e : g vs.toArray = ws.toArray) (r : Vals ys ws) (hl : ys.length ≤ sizeLine) :
    L2.Inv X pins σ (upd H a (.lst ys)) { s with heap := s.heap.update a (Obj.mapSeq g), toks := t } ∧ ∃ n', (s.heap.update a (Obj.mapSeq g)).get? a = some (seqObj "list" ws.toArray n') := by
  have h1 := get?_update_seq hg g
  rw [e] at h1
  refine ⟨I.write (by rw [ha]; trivial) (.inl rfl) (fun b u nb eb => ?_) ⟨_, h1⟩ ⟨hl, ws, _, r, h1⟩, _, h1⟩
  rw [Heap.get?_update_ne _ _ _ _ nb]
  exact eb
theorem pair_at {t : Addr} {i j : Int} (I : L2.Inv X pins σ H s) (h : H t = some (.tup [.int i, .int j])) : Srt.IsPair s.heap (.ref t) i j := by
  obtain ⟨_, its, r, o, ho, hc, n, hd⟩ := I.hok t _ h
  cases r with
  | cons r1 r2 => cases r2 with
    | cons r2 r3 => cases r3; obtain ⟨t1, rfl⟩ := r1; obtain ⟨t2, rfl⟩ := r2; exact ⟨t, o, t1, t2, n, rfl, ho, hc, hd⟩
end
theorem pair_one {h : Heap} {v : Value} {i j i' j' : Int} (a : Srt.IsPair h v i j) (b : Srt.IsPair h v i' j') : i = i' ∧ j = j' := by
  obtain ⟨x, o, t, u, n, e, ho, _, hd⟩ := a
  obtain ⟨x', o', t', u', n', e', ho', _, hd'⟩ := b
  obtain rfl : x = x' := Value.ref.inj (e.symm.trans e')
  obtain rfl : o = o' := Option.some.inj (ho.symm.trans ho')
  have z := hd.symm.trans hd'
  injection z with z1 _
  have z2 := congrArg Array.toList z1
  injection z2 with a1 a2
  injection a2 with a3 _
  injection a1 with b1 _
  injection a3 with b2 _
  exact ⟨b1, b2⟩
/-- what the items' keys are in the heap -/
noncomputable def keyAt (h : Heap) (v : Value) : Int × Int := by
  classical
  exact if q : ∃ p : Int × Int, Srt.IsPair h v p.1 p.2 then q.choose else (0, 0)
theorem keyAt_of {h : Heap} {v : Value} {i j : Int} (a : Srt.IsPair h v i j) : keyAt h v = (i, j) := by
  unfold keyAt
  have q : ∃ p : Int × Int, Srt.IsPair h v p.1 p.2 := ⟨(i, j), a⟩
  rw [dif_pos q]
  obtain ⟨e1, e2⟩ := pair_one q.choose_spec a
  exact Prod.ext e1 e2
/-- items, their keys, side by side -/
structure Itm where
  x : V
  v : Value
  kv : Value
theorem zips : ∀ {xs : List V} {vs kvs : List Value}, Vals xs vs → kvs.length = vs.length → ∃ l : List Itm, l.map (·.x) = xs ∧ l.map (fun t => (t.kv, t.v)) = kvs.zip vs ∧ l.map (·.kv) = kvs ∧ ∀ t ∈ l, RelV t.x t.v
  | [], [], [], _, _ => ⟨[], rfl, rfl, rfl, fun t h => nomatch h⟩
  | x :: xs, v :: vs, k :: ks, r, h => by
    cases r with
    | cons r1 r2 =>
      obtain ⟨l, a, b, c, d⟩ := zips r2 (Nat.succ.inj h)
      refine ⟨⟨x, v, k⟩ :: l, by rw [List.map_cons, a], by rw [List.map_cons, b]; rfl, by rw [List.map_cons, c], fun t ht => ?_⟩
      rcases List.mem_cons.mp ht with rfl | ht
      · exact r1
      · exact d t ht
  | [], [], _ :: _, _, h => nomatch h
  | _ :: _, _ :: _, [], _, h => nomatch h
  | [], _ :: _, _, r, _ => nomatch r
  | _ :: _, [], _, r, _ => nomatch r
theorem vals_of : ∀ {l : List Itm}, (∀ t ∈ l, RelV t.x t.v) → Vals (l.map (·.x)) (l.map (·.v))
  | [], _ => .nil
  | t :: l, h => .cons (h t List.mem_cons_self) (vals_of fun u hu => h u (List.mem_cons_of_mem _ hu))
theorem pw_short {α : Type} {R : α → α → Prop} : ∀ {l : List α}, l.length < 2 → l.Pairwise R
  | [], _ => .nil
  | [_], _ => List.pairwise_singleton _ _
  | _ :: _ :: _, h => absurd h (by simp)
def rSortKey (K : PySem.W.Frag) (sp : Sp) (f : Addr) : List V → List V → Hp → VK → Prop := fun vs zs H Q =>
  ∃ (a : Addr) (xs : List V) (g : V → Int × Int), vs = [.ref a] ∧ zs = [.ref f] ∧ SqL K H a xs ∧ xs.length ≤ 1000 ∧
    (∀ H1 x, Same H H1 → x ∈ xs → ∀ Q' : VK, (∀ p, H1 p = none → Q' (.ref p) (upd H1 p (.tup [.int (g x).1, .int (g x).2]))) → sp [x] H1 Q' E0) ∧
    ∀ ys p H', ys.Perm xs → ys.Pairwise (fun x y => SrtO.lexB (g y) (g x) = false) → H p = none → Same H H' → H' p = some (.lst ys) → Q (.ref p) H'
theorem list_get {X : Cx} {pins : List (Addr × Obj)} {σ : L2.St} {H : Hp} {s : Shared} {a : Addr} {xs : List V} (I : L2.Inv X pins σ H s) (h : H a = some (.lst xs)) : ∃ (vs : List Value) (n : Nat), Vals xs vs ∧ s.heap.get? a = some (seqObj "list" vs.toArray n) := by
  obtain ⟨_, its, n, r, e⟩ := I.hok a _ h
  exact ⟨its, n, r, e⟩
theorem vals_refs : ∀ {ts : List Addr} {us : List Value}, Vals (ts.map V.ref) us → us = ts.map Value.ref
  | [], _, .nil => rfl
  | t :: ts, _, .cons r1 r2 => by
    obtain rfl := vals_refs r2
    have e : _ = Value.ref t := r1
    rw [e]; rfl
theorem refs_vals : ∀ (ts : List Addr), Vals (ts.map V.ref) (ts.map Value.ref)
  | [] => .nil
  | t :: ts => .cons rfl (refs_vals ts)
/-- the keys gathered so far -/
structure Gath (X : Cx) (pins : List (Addr × Obj)) (σ : L2.St) (H : Hp) (D kS : Addr) (e1 : Nat) (xs : List V) (g : V → Int × Int) (i : Nat) (s' : Shared) : Prop where
  ex : ∃ (H1 : Hp) (ts : List Addr), L2.Inv (Cx2 X) ((D, seqObj "list" #[] e1) :: pins) σ H1 s' ∧ Same H H1 ∧ H1 kS = some (.lst (ts.map V.ref)) ∧ ts.length = i ∧ ∀ (j : Nat) (t : Addr) (x : V), ts[j]? = some t → xs[j]? = some x → H1 t = some (.tup [.int (g x).1, .int (g x).2])
section
variable {X : Cx} {k : Nat} {f : Addr} {fd : FuncData} {ps : List Str} {sp : Sp}
theorem runKey {pins : List (Addr × Obj)} {σ : L2.St} {H : Hp} {s : Shared} {x : V} {v : Value} {Q : VK} (F : FnOk X.prog X.w X.K X.mg X.base (L2.CX X.prog X.w) k f fd ps sp) (hr : Room (k + 2) X.A) (b : L2.Binds X.K fd ps [])
    (I : L2.Inv (Cx2 X) pins σ H s) (r : RelV x v) (q : sp [x] H Q E0) : wpAny (model X.prog X.w) X.A.in1.in1 (call (.ref f) [v]) (EP (Cx2 X) pins σ Q) (fun _ _ => False) s := by
  have hr2 : Room k (Cx2 X).A := hr.in1.in1
  exact run_fn (X := Cx2 X) (dvs := []) (vs := [x]) F hr2 b .nil passL I (.cons r .nil) q
/-- the keys are asked, item by item -/
theorem keys_asked {pins : List (Addr × Obj)} {σ : L2.St} {H H1 : Hp} {s : Shared} {D kS : Addr} {xs : List V} {vs : List Value} {g : V → Int × Int} {e1 : Nat} {P : PySem.Fin → Shared → Prop} {E : Value → Shared → Prop}
    (F : FnOk X.prog X.w X.K X.mg X.base (L2.CX X.prog X.w) k f fd ps sp) (hr : Room (k + 2) X.A) (b : L2.Binds X.K fd ps []) (I : L2.Inv (Cx2 X) ((D, seqObj "list" #[] e1) :: pins) σ H1 s) (sm : Same H H1) (hK : H1 kS = some (.lst []))
    (nK : H kS = none) (r : Vals xs vs) (hl : xs.length ≤ 1000)
    (key : ∀ H1 x, Same H H1 → x ∈ xs → ∀ Q' : VK, (∀ p, H1 p = none → Q' (.ref p) (upd H1 p (.tup [.int (g x).1, .int (g x).2]))) → sp [x] H1 Q' E0)
    (done : ∀ s', Gath X pins σ H D kS e1 xs g xs.length s' → wpAny (model X.prog X.w) X.A.in1.in1 (do let keys ← Builtin.List.listItems (.ref kS); ksk_end D false vs.toArray e1 (.ref kS) keys) P E s') :
    wpAny (model X.prog X.w) X.A.in1.in1 (ksk_rest D (.ref f) false vs.toArray e1 (.ref kS)) P E s := by
  unfold ksk_rest
  refine wpAny_bind (wpAny_rule ?_)
  have hvl : xs.length = vs.length := r.length
  have st0 : Gath X pins σ H D kS e1 xs g 0 s := ⟨H1, [], I, sm, hK, rfl, fun j t x h => by simp at h⟩
  first
    | rw [List.forIn_toArray]
    | (rw [← Array.forIn_toList]; simp only [List.toList_toArray])
  refine wpAny_bind (ksk_fold (fun i s' => Gath X pins σ H D kS e1 xs g i s') vs 0 s st0 ?_ ?_)
  · intro j v s' hv G
    obtain ⟨H2, ts, I2, sm2, hK2, el, ht⟩ := G.ex
    rw [Nat.zero_add] at el
    obtain ⟨x, hx⟩ : ∃ x, xs[j]? = some x := ⟨_, List.getElem?_eq_getElem (by rw [hvl]; exact (List.getElem?_eq_some_iff.mp hv).1)⟩
    obtain ⟨v', hv', rx⟩ := r.get hx
    obtain rfl : v = v' := Option.some.inj (hv.symm.trans hv')
    have hxm : x ∈ xs := List.mem_of_getElem? hx
    have hj : j < xs.length := (List.getElem?_eq_some_iff.mp hx).1
    refine wpAny_bind (wpAny_attempt (wpAny_mono (runKey (Q := fun u H3 => ∃ p, u = .ref p ∧ H2 p = none ∧ H3 = upd H2 p (.tup [.int (g x).1, .int (g x).2])) F hr b I2 rx (key H2 x sm2 hxm _ fun p hp => ⟨p, rfl, hp, rfl⟩)) (fun u s3 h3 => ?_) fun _ _ z => z.elim))
    obtain ⟨y, H3, I3, ry, p, rfl, hp, rfl⟩ := h3
    obtain rfl : u = Value.ref p := ry
    dsimp only
    have hK3 : (upd H2 p (.tup [.int (g x).1, .int (g x).2])) kS = some (.lst (ts.map V.ref)) := by rw [upd_ne (ne_of_none hK2 hp)]; exact hK2
    obtain ⟨kv, m, rk, gk⟩ := list_get I3 hK3
    obtain rfl := vals_refs rk
    have hsz : (ts.map Value.ref).toArray.size = j := by rw [List.size_toArray, List.length_map, el]
    have er : ((ts.map Value.ref).toArray.push (Value.ref p)) = ((ts ++ [p]).map Value.ref).toArray := by rw [List.map_append]; simp
    have hlen : ((ts ++ [p]).map V.ref).length ≤ sizeLine := by
      rw [List.length_map, List.length_append, el]
      exact Nat.le_trans (by show j + 1 ≤ 1000; omega) (by decide)
    obtain ⟨I4, _⟩ := put_list (t := s3.toks) I3 hK3 gk (·.push (.ref p)) er (refs_vals (ts ++ [p])) hlen
    refine wpAny_bind (listUpdate_at gk rfl ?_ ?_ ?_)
    rotate_left
    · rw [hsz]; exact Nat.le_trans (by omega : j ≤ 1000) (by decide)
    · rw [Array.size_push, hsz]; exact Nat.le_trans (by omega : j + 1 ≤ 1000) (by decide)
    refine wpAny_pure ⟨rfl, ⟨_, ts ++ [p], I4, ?_, upd_same, by rw [List.length_append, el, Nat.zero_add]; rfl, ?_⟩⟩
    · intro b o e
      rw [upd_ne (ne_of_none e nK), upd_ne (ne_of_none (sm2 _ _ e) hp)]
      exact sm2 _ _ e
    · intro j' t x' h1 h2
      rcases Nat.lt_or_ge j' ts.length with q | q
      · rw [List.getElem?_append_left q] at h1
        have h3 := ht j' t x' h1 h2
        rw [upd_ne (ne_of h3 hK2 (by intro z; cases z)), upd_ne (ne_of_none h3 hp)]
        exact h3
      · rw [List.getElem?_append_right q] at h1
        have e0 : j' = j := by
          have := (List.getElem?_eq_some_iff.mp h1).1
          simp at this
          omega
        subst e0
        rw [el, Nat.sub_self] at h1
        obtain rfl : p = t := Option.some.inj h1
        obtain rfl : x = x' := Option.some.inj (hx.symm.trans h2)
        rw [upd_ne (ne_of_none hK2 hp).symm, upd_same]
  · intro s' G
    rw [Nat.zero_add, ← hvl] at G
    exact done s' G
/-- the sort of what was gathered, and its end -/
theorem keys_sorted {pins : List (Addr × Obj)} {σ : L2.St} {H : Hp} {s' : Shared} {D kS : Addr} {xs : List V} {vs : List Value} {g : V → Int × Int} {e1 : Nat} {P : PySem.Fin → Shared → Prop} {E : Value → Shared → Prop} {A : Around}
    (G : Gath X pins σ H D kS e1 xs g xs.length s') (fp : ∀ H1, H1 D = none → FpOk X pins H1 D) (nK : H kS = none) (ne : kS ≠ D) (r : Vals xs vs) (hl : xs.length ≤ 1000)
    (fin : ∀ ys H' s'', ys.Perm xs → ys.Pairwise (fun x y => SrtO.lexB (g y) (g x) = false) → L2.Inv X pins σ H' s'' → Same H H' → H' D = some (.lst ys) → P (.done (.ret .none)) s'') :
    wpAny (model X.prog X.w) A (do let keys ← Builtin.List.listItems (.ref kS); ksk_end D false vs.toArray e1 (.ref kS) keys) P E s' := by
  obtain ⟨H1, ts, I1, sm, hK, el, ht⟩ := G.ex
  obtain ⟨kv, m, rk, gk⟩ := list_get I1 hK
  obtain rfl := vals_refs rk
  have hvl : xs.length = vs.length := r.length
  have hpin := I1.pin (D, seqObj "list" #[] e1) (List.mem_append_right _ List.mem_cons_self)
  have gD : s'.heap.get? D = some (seqObj "list" #[] e1) := hpin.1
  have hD : H1 D = none := hpin.2.1
  have I2 : L2.Inv X pins σ H1 s' := Out2 (I1.pins_of fun p hp => I1.pin p (List.mem_append_right _ (List.mem_cons_of_mem _ hp)))
  have hkl : (ts.map Value.ref).length = vs.length := by rw [List.length_map, el, hvl]
  obtain ⟨l, a1, a2, a3, a4⟩ := zips r hkl
  have hpairs : ∀ t ∈ l, Srt.IsPair s'.heap t.kv (g t.x).1 (g t.x).2 := fun t hm => by
    obtain ⟨j, hj⟩ := List.getElem?_of_mem hm
    have e1 : (l.map (·.x))[j]? = some t.x := by rw [List.getElem?_map, hj]; rfl
    have e3 : (l.map (·.kv))[j]? = some t.kv := by rw [List.getElem?_map, hj]; rfl
    rw [a1] at e1
    rw [a3, List.getElem?_map] at e3
    cases q : ts[j]? with
    | none => rw [q] at e3; cases e3
    | some u =>
      rw [q] at e3
      have e4 : Value.ref u = t.kv := Option.some.inj e3
      rw [← e4]
      exact pair_at I2 (ht j u t.x q e1)
  have hkey : ∀ t ∈ l, keyAt s'.heap t.kv = g t.x := fun t hm => keyAt_of (hpairs t hm)
  refine wpAny_bind (listItems_at gk rfl ?_)
  -- the end, from any order that is right
  have tail : ∀ st : SortSt, failedOf st = none → (∃ l' : List Itm, l'.Perm l ∧ (arrOf st).toList = l'.map (fun t => (t.kv, t.v)) ∧ l'.Pairwise fun a b => SrtO.lexB (g b.x) (g a.x) = false) →
      wpAny (model X.prog X.w) A (ksk_tail D false e1 (.ref kS) st) P E s' := by
    rintro st hf ⟨l', p1, p2, p3⟩
    have hout : ((arrOf st).map (·.2)) = (l'.map (·.v)).toArray := by
      apply Array.toList_inj.mp
      rw [Array.toList_map, p2, List.map_map]
      rfl
    have hll : l'.length = xs.length := by rw [p1.length_eq, ← a1, List.length_map]
    have hy : (l'.map (·.x)).Perm xs := by rw [← a1]; exact p1.map _
    have rv : Vals (l'.map (·.x)) (l'.map (·.v)) := vals_of fun t hm => a4 t (p1.mem_iff.mp hm)
    have hk2 := put_list (t := s'.toks) (ys := []) (ws := []) I2 hK gk (fun _ => #[]) rfl .nil (Nat.zero_le _)
    obtain ⟨I3, m3, gk3⟩ := hk2
    have gD3 : (s'.heap.update kS (Obj.mapSeq fun _ => #[])).get? D = some (seqObj "list" #[] e1) := by rw [Heap.get?_update_ne _ _ _ _ (fun z => ne z.symm)]; exact gD
    generalize hh4 : (s'.heap.update kS (Obj.mapSeq fun _ => #[])) = h3 at I3 gD3 gk3
    have gD4 := get?_update_seq gD3 (fun _ => (l'.map (·.v)).toArray)
    have hD3 : (upd H1 kS (.lst [])) D = none := by rw [upd_ne (fun z => ne z.symm)]; exact hD
    have hln : (l'.map (·.x)).length ≤ sizeLine := by rw [List.length_map, hll]; exact Nat.le_trans hl (by decide)
    have kp4 : ∀ b ob, b ≠ D → h3.get? b = some ob → (h3.update D (Obj.mapSeq fun _ => (l'.map (·.v)).toArray)).get? b = some ob := fun b ob nb eb => by rw [Heap.get?_update_ne _ _ _ _ nb]; exact eb
    generalize hh5 : h3.update D (Obj.mapSeq fun _ => (l'.map (·.v)).toArray) = h5 at gD4 kp4
    have ok4 : ObjOk X.prog X.w (upd (upd H1 kS (.lst [])) D (.lst (l'.map (·.x)))) h5 D (.lst (l'.map (·.x))) := ⟨hln, l'.map (·.v), _, rv, gD4⟩
    have I4 := Inv.take (t' := s'.toks) I3 (it := D) kp4 (fp _ hD3) ok4
    unfold ksk_tail
    dsimp only
    have z1 : (ts.map Value.ref).toArray.size ≤ sizeLine := by rw [List.size_toArray, hkl, ← hvl]; exact Nat.le_trans hl (by decide)
    have z2 : ((fun _ => #[] : Array Value → Array Value) (ts.map Value.ref).toArray).size ≤ sizeLine + 1 := Nat.zero_le _
    refine wpAny_bind (listUpdate_at gk rfl ?_ z1 z2)
    refine wpAny_bind (wpAny_letGo ?_)
    rw [hh4]
    refine wpAny_bind (seqEpoch_at gD3 rfl ?_)
    rw [hout]
    have z0 : (#[] : Array Value).size ≤ sizeLine := Nat.zero_le _
    refine wpAny_bind (listUpdate_at gD3 rfl ?_ z0 ?_)
    rotate_left
    · show (l'.map (·.v)).toArray.size ≤ _
      rw [List.size_toArray, List.length_map, hll]
      exact Nat.le_trans hl (by decide)
    dsimp only
    rw [hf]
    simp only [bne_self_eq_false, Bool.false_eq_true, if_false]
    rw [hh5]
    refine wpAny_pure (fin (l'.map (·.x)) _ _ hy (List.pairwise_map.mpr p3) I4 (fun b o e => ?_) upd_same)
    rw [upd_ne (fun z => by rw [z] at e; rw [sm _ _ e] at hD; cases hD), upd_ne (ne_of_none e nK)]
    exact sm _ _ e
  have hzip : ((ts.map Value.ref).toArray.zip vs.toArray).toList = l.map fun t => (t.kv, t.v) := by
    rw [a2, List.zip_toArray]
  unfold ksk_end
  dsimp only
  simp only [Bool.false_eq_true, if_false]
  have hvs : vs.toArray.size = vs.length := List.size_toArray ..
  by_cases h2 : vs.toArray.size < 2
  · rw [if_pos h2, if_pos h2]
    refine wpAny_bind (wpAny_pure ?_)
    rw [StateT.run_pure]
    refine wpAny_bind (wpAny_pure ?_)
    dsimp only
    refine tail _ rfl ⟨l, List.Perm.refl _, hzip, ?_⟩
    have hl2 : l.length < 2 := by
      rw [← List.length_map (f := fun t : Itm => t.x), a1, hvl, ← hvs]; exact h2
    exact pw_short hl2
  · rw [if_neg h2, if_neg h2]
    have hpv : ∀ v ∈ ts.map Value.ref, Srt.IsPair s'.heap v (keyAt s'.heap v).1 (keyAt s'.heap v).2 := fun v hm => by
      rw [← a3] at hm
      obtain ⟨t, hm2, rfl⟩ := List.mem_map.mp hm
      rw [hkey t hm2]
      exact hpairs t hm2
    obtain ⟨fs, f1, f2, f3⟩ := Srt.firsts_of (vs := ts.map Value.ref) fun v hm => ⟨_, _, hpv v hm⟩
    refine wpAny_bind (PySem.W.kat_kind (T := .type "int") f1 (by omega) (fun f hm => ?_) (by rfl) ?_)
    · obtain ⟨x, t, rfl⟩ := f3 f hm
      exact PySem.W.Looks.now
    have e0 : (Value.type "int" != Value.type "tuple") = true := by decide +kernel
    rw [e0]
    have hC := SrtO.pair_cmp (prog := X.prog) (w := X.w) (A := A) (s := s') (k := keyAt s'.heap) hpv
    refine wpAny_bind (wpAny_mono (SrtO.wpS_sortO (st0 := SortSt.mk' (tuples' true) ((ts.map Value.ref).toArray.zip vs.toArray) #[] 7 none)
      (Q := fun _ st' => SrtO.Srtd (SrtO.lt2 fun v u => SrtO.lexB (keyAt s'.heap v) (keyAt s'.heap u)) (arrOf st').toList ∧ SrtO.Stb (SrtO.lt2 fun v u => SrtO.lexB (keyAt s'.heap v) (keyAt s'.heap u)) (arrOf st').toList ((ts.map Value.ref).toArray.zip vs.toArray).toList ∧ failedOf st' = none)
      (SrtO.swo2 (SrtO.swo_lex _)) hC rfl (fun p hm => ?_) rfl rfl fun st' b1 b2 b3 => ⟨b1, b2, b3⟩) ?_ fun _ _ e => e)
    · have hm' : p ∈ ((ts.map Value.ref).toArray.zip vs.toArray).toList := hm
      rw [List.zip_toArray] at hm'
      exact (List.of_mem_zip hm').1
    rintro ⟨⟨⟩, st'⟩ s2 ⟨rfl, b1, b2, b3⟩
    dsimp only
    obtain ⟨l', c1, c2⟩ := perm_lift (fun t : Itm => (t.kv, t.v)) b2.perm l hzip.symm
    refine tail st' b3 ⟨l', c1, c2.symm, ?_⟩
    have b4 : SrtO.Srtd (SrtO.lt2 fun v u => SrtO.lexB (keyAt s2.heap v) (keyAt s2.heap u)) (l'.map fun t => (t.kv, t.v)) := by rw [c2]; exact b1
    refine (List.pairwise_map.mp b4).imp_of_mem fun {x y} hx hy h => ?_
    have h' : SrtO.lexB (keyAt s2.heap y.kv) (keyAt s2.heap x.kv) = false := h
    rw [hkey y (c1.mem_iff.mp hy), hkey x (c1.mem_iff.mp hx)] at h'
    exact h'
theorem cr_sortKey (F : FnOk X.prog X.w X.K X.mg X.base (L2.CX X.prog X.w) k f fd ps sp) (hr : Room (k + 2) X.A) (b : L2.Binds X.K fd ps []) : CallRK X (.builtin "sorted") [Str.ofString "key"] (rSortKey X.K sp f) := by
  intro pins s σ H zs0 zs us ws Q I rx rz hq
  obtain ⟨a, xs, g, rfl, rfl, hs, hl, key, fin⟩ := hq
  obtain rfl := Vals.ref1 rx
  obtain ⟨w1, rfl, e1⟩ := vals1 rz
  obtain rfl : w1 = Value.ref f := e1
  obtain ⟨its, rv, pl, hz⟩ := I.list hs
  have hil : its.length ≤ sizeLine := by rw [← rv.length]; exact Nat.le_trans hl (by decide)
  show wpAny _ _ (call (.builtin "sorted") [.ref a] [(Str.ofString "key", .ref f)]) _ _ _
  refine call_function_entry_kw kind_sorted plain_sorted entry_sorted (ksk_s1 _ _) ?_
  unfold Builtin.«sorted»
  refine wpAny_bind (m := checkCount "sorted" 1 1 _) (wpAny_pure ?_)
  refine wpAny_bind (collect_list pl.isList ?_ hil)
  refine wpAny_bind (wpAny_newList ?_ hil)
  -- the copy, at D
  have sz1 : ((s.heap.push (seqObj "list" #[] 0)).update s.heap.objs.size (Obj.mapSeq (· ++ its.toArray))).objs.size = s.heap.objs.size + 1 := by rw [Heap.size_update, size_push']
  have kp1 : ∀ c o, s.heap.get? c = some o → ((s.heap.push (seqObj "list" #[] 0)).update s.heap.objs.size (Obj.mapSeq (· ++ its.toArray))).get? c = some o := fun c o q => by
    have lt := Heap.lt_size q
    rw [Heap.get?_update_ne _ _ _ _ (Nat.ne_of_lt lt)]
    exact Heap.get?_push_of_some _ q
  generalize (s.heap.push (seqObj "list" #[] 0)).update s.heap.objs.size (Obj.mapSeq (· ++ its.toArray)) = h1 at sz1 kp1
  show wpAny _ _ _ _ _ { s with heap := h1.push (seqObj "list" its.toArray 0) }
  rw [sz1]
  have gD : (h1.push (seqObj "list" its.toArray 0)).get? (s.heap.objs.size + 1) = some (seqObj "list" its.toArray 0) := by rw [← sz1]; exact Heap.get?_push_size _ rfl
  refine wpAny_bind (wpAny_holding (wpAny_call_entry_kw slot_list_sort ⟨_, gD, rfl⟩ entry_list_sort ?_ (ksk_l1 _ _)))
  show wpAny (model X.prog X.w) X.A.in1.in1 (Builtin.«list.sort» ⟨[.ref (s.heap.objs.size + 1)], [(Str.ofString "key", .ref f)]⟩) _ _ _
  rw [ksk_t1]
  unfold ksk_tree
  refine wpAny_bind (listItems_at gD rfl ?_)
  have z1 : its.toArray.size ≤ sizeLine := by rw [List.size_toArray]; exact hil
  have z2 : ((fun _ => #[] : Array Value → Array Value) its.toArray).size ≤ sizeLine + 1 := Nat.zero_le _
  refine wpAny_bind (listUpdate_at gD rfl ?_ z1 z2)
  have sz2 : ((h1.push (seqObj "list" its.toArray 0)).update (s.heap.objs.size + 1) (Obj.mapSeq fun _ => #[])).objs.size = s.heap.objs.size + 2 := by rw [Heap.size_update, size_push', sz1]
  have gD2 := get?_update_seq gD (fun _ => (#[] : Array Value))
  have kp2 : ∀ c o, s.heap.get? c = some o → ((h1.push (seqObj "list" its.toArray 0)).update (s.heap.objs.size + 1) (Obj.mapSeq fun _ => #[])).get? c = some o := fun c o q => by
    have lt := Heap.lt_size q
    rw [Heap.get?_update_ne _ _ _ _ (Nat.ne_of_lt (Nat.lt_succ_of_lt lt))]
    exact Heap.get?_push_of_some _ (kp1 c o q)
  generalize (h1.push (seqObj "list" its.toArray 0)).update (s.heap.objs.size + 1) (Obj.mapSeq fun _ => #[]) = h2 at sz2 kp2 gD2
  generalize hep : (if ((fun _ => #[] : Array Value → Array Value) its.toArray).size == its.toArray.size then 0 else 0 + 1) = ep at gD2
  have gD2' : h2.get? (s.heap.objs.size + 1) = some (seqObj "list" #[] ep) := gD2
  show wpAny _ _ _ _ _ { s with heap := h2 }
  refine wpAny_bind (seqEpoch_at gD2' rfl ?_)
  refine wpAny_bind (wpAny_newTuple ?_ hil)
  refine wpAny_bind (wpAny_newList ?_ (Nat.zero_le _))
  refine wpAny_holding ?_
  -- the key store, at kS
  have sz3 : (h2.push { cls := .type "tuple", data := .seq its.toArray }).objs.size = s.heap.objs.size + 3 := by rw [size_push', sz2]
  have kp3 : ∀ c o, h2.get? c = some o → (h2.push { cls := .type "tuple", data := .seq its.toArray }).get? c = some o := fun c o q => Heap.get?_push_of_some _ q
  show wpAny _ _ _ _ _ { s with heap := (h2.push { cls := .type "tuple", data := .seq its.toArray }).push (seqObj "list" #[] 0) }
  generalize h2.push { cls := .type "tuple", data := .seq its.toArray } = h3 at sz3 kp3
  have I3 : L2.Inv X pins σ H { s with heap := h3, toks := s.toks } := I.kept (t' := s.toks) fun c u q => kp3 _ _ (kp2 _ _ q)
  have gK : (h3.push (seqObj "list" #[] 0)).get? h3.objs.size = some (seqObj "list" #[] 0) := Heap.get?_push_size _ rfl
  have kp4 : ∀ c o, h3.get? c = some o → (h3.push (seqObj "list" #[] 0)).get? c = some o := fun c o q => Heap.get?_push_of_some _ q
  have I4 : L2.Inv X pins σ (upd H h3.objs.size (.lst [])) { s with heap := h3.push (seqObj "list" #[] 0), toks := s.toks } :=
    I3.laid (a := h3.objs.size) (o := .lst []) kp4 (Nat.le_refl _) ⟨Nat.zero_le _, [], 0, .nil, gK⟩
  have nK : H h3.objs.size = none := I3.hok.fresh (Nat.le_refl _)
  have nD : H (s.heap.objs.size + 1) = none := I.hok.fresh (Nat.le_succ _)
  have ne : h3.objs.size ≠ s.heap.objs.size + 1 := by rw [sz3]; omega
  have fp : ∀ H1, H1 (s.heap.objs.size + 1) = none → FpOk X pins H1 (s.heap.objs.size + 1) := fun H1 h => I.fpOk (Nat.le_succ _) h
  have fp0 := fp (upd H h3.objs.size (.lst [])) (by rw [upd_ne ne.symm]; exact nD)
  have I5 : L2.Inv (Cx2 X) ((s.heap.objs.size + 1, seqObj "list" #[] ep) :: pins) σ (upd H h3.objs.size (.lst [])) { s with heap := h3.push (seqObj "list" #[] 0), toks := s.toks } := In2 (I4.pins_of fun p hp => by
    rcases List.mem_cons.mp hp with rfl | hp
    · exact ⟨kp4 _ _ (kp3 _ _ gD2'), fp0.1, fp0.2.1, fp0.2.2.1, fun v q => nomatch q⟩
    · exact I4.pin p (List.mem_append_right _ hp))
  have sm : Same H (upd H h3.objs.size (.lst [])) := fun c o q => by rw [upd_ne (ne_of_none q nK)]; exact q
  refine keys_asked F hr b I5 sm upd_same nK rv hl key fun s' G => ?_
  refine keys_sorted G fp nK ne rv hl fun ys H' s2 hp hord I6 sm6 hD6 => ?_
  refine ⟨_, rfl, wpAny_pure ⟨_, rfl, .ref (s.heap.objs.size + 1), H', ?_, rfl, fin ys _ H' hp hord nD sm6 hD6⟩⟩
  exact I6
end
end Sb
namespace Sb
open PySem PySem.Spec PyProof.Rows L2
/-! ### which shelves stay, in plain Lean -/
def own (S : Tb) (n z : Nat) : List Nat := (pgs S n).filter fun i => decide ((sfOf S i).z = z)
def rkLe (S : Tb) (a b : Nat) : Bool := decide (cn S b < cn S a ∨ (cn S a = cn S b ∧ a ≤ b))
def rankedL (S : Tb) (is : List Nat) : List Nat := is.mergeSort (rkLe S)
def sumC (S : Tb) (is : List Nat) : Nat := (is.map (cn S)).sum
def needL (S : Tb) (is : List Nat) (k : Nat) : Nat := (sumC S is + k - 1) / k
def stayL (S : Tb) (is : List Nat) (k : Nat) : List Nat := is.filter fun i => decide (i ∈ (rankedL S is).take (needL S is k))
theorem own_lt (S : Tb) (n z : Nat) : (own S n z).Pairwise (· < ·) := (pgs_lt S n).filter _
theorem own_len (S : Tb) (n z : Nat) : (own S n z).length ≤ n := Nat.le_trans (List.length_filter_le _ _) (pgs_len _ _)
theorem mem_own {S : Tb} {n z i : Nat} : i ∈ own S n z ↔ i < n ∧ ∃ x, S i = some x ∧ x.z = z := by
  unfold own
  rw [List.mem_filter, mem_pgs, decide_eq_true_eq]
  constructor
  · rintro ⟨⟨h1, h2⟩, h3⟩
    obtain ⟨x, hx⟩ := Option.isSome_iff_exists.mp h2
    rw [sfOf_at hx] at h3
    exact ⟨h1, x, hx, h3⟩
  · rintro ⟨h1, x, hx, h3⟩
    rw [sfOf_at hx, hx]
    exact ⟨⟨h1, rfl⟩, h3⟩
theorem eq_srt {α : Type} {R : α → α → Prop} (anti : ∀ a b, R a b → R b a → a = b) : ∀ {l l' : List α}, l.Pairwise R → l'.Pairwise R → l.Perm l' → l = l'
  | [], l', _, _, h => (List.nil_perm.mp h).symm
  | a :: l, [], _, _, h => absurd h.symm (by intro q; have := List.nil_perm.mp q; cases this)
  | a :: l, b :: l', h1, h2, h => by
    obtain ⟨a1, a2⟩ := List.pairwise_cons.mp h1
    obtain ⟨b1, b2⟩ := List.pairwise_cons.mp h2
    have e : a = b := by
      rcases List.mem_cons.mp (h.mem_iff.mp List.mem_cons_self) with e | m1
      · exact e
      rcases List.mem_cons.mp (h.mem_iff.mpr List.mem_cons_self) with e | m2
      · exact e.symm
      exact anti a b (a1 b m2) (b1 a m1)
    subst e
    rw [eq_srt anti a2 b2 (List.Perm.cons_inv h)]
theorem rkLe_iff {S : Tb} {a b : Nat} : rkLe S a b = true ↔ cn S b < cn S a ∨ (cn S a = cn S b ∧ a ≤ b) := by unfold rkLe; rw [decide_eq_true_eq]
theorem rkLe_anti {S : Tb} (a b : Nat) (h1 : rkLe S a b = true) (h2 : rkLe S b a = true) : a = b := by rw [rkLe_iff] at h1 h2; omega
theorem ranked_perm (S : Tb) (is : List Nat) : (rankedL S is).Perm is := List.mergeSort_perm _ _
theorem ranked_pw (S : Tb) (is : List Nat) : (rankedL S is).Pairwise fun a b => rkLe S a b = true := List.pairwise_mergeSort (le := rkLe S) (fun a b c h1 h2 => by rw [rkLe_iff] at *; omega) (fun a b => by rw [Bool.or_eq_true, rkLe_iff, rkLe_iff]; omega) is
theorem cutV_take (xs : List V) (k : Nat) : cutV xs none (some (k : Int)) = xs.take k := by
  unfold cutV
  rw [HT.sIx_none, HT.sIx_nat, List.drop_zero, Nat.sub_zero]
  by_cases h : k ≤ xs.length
  · rw [Nat.min_eq_left h]
  · rw [Nat.min_eq_right (by omega), List.take_length, List.take_of_length_le (by omega)]
theorem cn_at {S : Tb} {i : Nat} {x : Sf} (h : S i = some x) : cn S i = cnt x.tk := by unfold cn; rw [h]
def shRefs (s : Hs) (is : List Nat) : List V := is.map fun i => V.ref (s.ad (.p i))
theorem shRefs_at {s : Hs} {l : List Nat} {i : Nat} {x : V} (h : (shRefs s l)[i]? = some x) : ∃ k, l[i]? = some k ∧ x = .ref (s.ad (.p k)) := by
  unfold shRefs at h
  rw [List.getElem?_map] at h
  cases e : l[i]? with
  | none => rw [e] at h; cases h
  | some k => rw [e] at h; exact ⟨k, rfl, (Option.some.inj h).symm⟩
theorem sum_cast (S : Tb) : ∀ is : List Nat, (is.map fun i => ((cn S i : Nat) : Int)).sum = ((sumC S is : Nat) : Int)
  | [] => rfl
  | i :: is => by
    have ih := sum_cast S is
    unfold sumC at ih ⊢
    simp only [List.map_cons, List.sum_cons, ih]
    omega
/-- what rank answers, by the shelf -/
def gk (s : Hs) (is : List Nat) (v : V) : Int × Int := match is.find? fun i => decide (v = .ref (s.ad (.p i))) with
  | some i => (-((cn s.S i : Nat) : Int), ((i : Nat) : Int))
  | none => (0, 0)
theorem gk_at {s : Hs} {is : List Nat} (inj : ∀ i j, i ∈ is → j ∈ is → s.ad (.p i) = s.ad (.p j) → i = j) {i : Nat} (h : i ∈ is) : gk s is (.ref (s.ad (.p i))) = (-((cn s.S i : Nat) : Int), ((i : Nat) : Int)) := by
  unfold gk
  cases e : is.find? (fun j => decide (V.ref (s.ad (.p i)) = .ref (s.ad (.p j)))) with
  | none =>
    have := List.find?_eq_none.mp e i h
    simp at this
  | some j =>
    have h1 := List.mem_of_find?_eq_some e
    have h2 := List.find?_some e
    have h3 : V.ref (s.ad (.p i)) = .ref (s.ad (.p j)) := of_decide_eq_true h2
    injection h3 with h3
    rw [inj i j h h1 h3]
def sp_own_shelves (K : PySem.W.Frag) (A : Ad) : Sp := fun vs H Q _ => ∃ (pa z : Addr) (m : PlM) (s : Hs) (k : Nat), vs = [.ref (s.ad .rm), .int (k : Nat)] ∧ RmI A H pa z m s ∧
  ∀ q H', H q = none → H' q = some (.lst (shRefs s (own s.S m.n k))) → Same H H' → Q (.ref q) H'
def sp_rank (K : PySem.W.Frag) (A : Ad) : Sp := fun vs H Q _ => ∃ (pa z : Addr) (m : PlM) (s : Hs) (i : Nat) (x : Sf), vs = [.ref (s.ad (.p i))] ∧ RmI A H pa z m s ∧ s.S i = some x ∧
  ∀ q, H q = none → Q (.ref q) (upd H q (.tup [.int (-(cnt x.tk : Int)), .int (i : Nat)]))
def sp_staying (K : PySem.W.Frag) (A : Ad) : Sp := fun vs H Q _ => ∃ (pa z : Addr) (m : PlM) (s : Hs) (a : Addr) (is : List Nat) (k : Nat), vs = [.ref a, .int (k : Nat)] ∧ RmI A H pa z m s ∧ H a = some (.lst (shRefs s is)) ∧
  (∀ i ∈ is, (s.S i).isSome = true) ∧ is.Pairwise (· < ·) ∧ 1 ≤ k ∧ k ≤ 60 ∧ ∀ q H', H q = none → H' q = some (.lst (nV (stayL s.S is k))) → Same H H' → Q (.ref q) H'
section
variable {P : Program} {w : World} {K : PySem.W.Frag} {mg : Str → Option Value} {base : Heap} {A : Ad}
theorem ok_own_shelves (T : Tx K mg A) : Df P w K mg base 1 "own_shelves" ["room", "size"] (sp_own_shelves K A) := by
  refine Dd.ok T.d_own_shelves sc_own_shelves bi_own_shelves (fun vs H Q E h => ?_) (fun f cdv Ar outer s H vs Q E hr h => ?_)
  · obtain ⟨pa, z, m, s, k, rfl, _⟩ := h; rfl
  · obtain ⟨pa, z, m, s, k, rfl, I, kQ⟩ := h
    refine ⟨_, (pss_one (ps_ret (pe_lc (own := [("page", 2)]) (g := gName 2) (tt := (tTest (tOp rEq (tFld K (tDGet (tFld K (tVar 0) "rows") (tVar 2)) "size") (tVar 1)))) (te := (tDGet (tFld K (tVar 0) "rows") (tVar 2))) rfl sc_own_shelves.nd (pi_list (pe_callB (call_sortedDI rfl) (by rfl) T.z_sorted (by decide +kernel) (pa_cons (pe_fld (pv 0) rfl) pa_nil))) (blkOk_by (own := [("page", 2)]) (N := ["room", "size", "page"]) (sc := defScope s_own_shelves) (by decide +kernel)) (fun _ _ _ _ _ => pg_name (i := 2) sc_own_shelves.nd rfl (Or.inl rfl)) (fun _ _ _ _ _ => pts_one (pt_cmpR op_eq (pe_fld (pe_dget (hu_of hr) (pe_fld (pv 0) rfl) (pv 2) (fun _ _ => rfl)) rfl) (pv 1) (nomark _))) (fun _ _ _ _ _ => (pe_dget (hu_of hr) (pe_fld (pv 0) rfl) (pv 2) (fun _ _ => rfl)))))), ?_⟩
    obtain ⟨g1, g2, g3⟩ := I.keysD I.pl.ok
    refine ⟨_, rfl, I.fRows T ⟨_, _, _, rfl, .inl I.d, g1, g2, fun ys p h1 h2 hp => ?_⟩⟩
    obtain rfl := g3 ys h1 h2
    rw [castI_V]
    refine ⟨p, rfl, ⟨_, SqL.of upd_same⟩, fun D hD => ?_⟩
    have npD : p ≠ D := fun e => by rw [e, upd_same] at hD; cases hD
    have hD0 : H D = none := by rw [upd_ne npD.symm] at hD; exact hD
    refine lc_list (K := K) (a := p) (xs := nV (pgs s.S m.n)) (fun i H' => Same H H' ∧ H' p = some (.lst (nV (pgs s.S m.n))) ∧ H' D = some (.lst (shRefs s (((pgs s.S m.n).take i).filter fun i => decide ((sfOf s.S i).z = k))))) ⟨sm_new (sm_n hp) hD0, ?_, upd_same⟩ (fun i H' _ h => SqL.of h.2.1) ?_ ?_
    · rw [upd_ne npD]; exact upd_same
    · rintro i x H' hx ⟨sm, e1, e2⟩
      obtain ⟨q, hq, rfl⟩ := nV_at hx
      obtain ⟨y, hy⟩ := pgs_at hq
      have I' := I.same sm
      have S' := I'.sh hy
      have et := take_at hq
      have ey := sfOf_at hy
      refine ⟨rfl, ?_⟩
      refine ⟨_, rfl, I'.fRows T ⟨_, rfl, _, _, rfl, I'.dget hy, S'.fSize T ⟨_, rfl, rfl, _, rfl, ?_⟩⟩⟩
      refine iteD (fun h => ?_) (fun h => ?_)
      · have h' : y.z = k := by
          have h'' : V.int ((y.z : Nat) : Int) = V.int ((k : Nat) : Int) := h
          injection h'' with h''
          exact Int.ofNat.inj h''
        refine ⟨_, rfl, I'.fRows T ⟨_, rfl, _, _, rfl, I'.dget hy, _, e2, ?_, Same.up sm hD0, ?_, ?_⟩⟩
        · unfold shRefs
          rw [List.length_map]
          refine Nat.lt_of_le_of_lt (List.length_filter_le _ _) ?_
          rw [List.length_take]
          exact Nat.lt_of_le_of_lt (Nat.le_trans (Nat.min_le_right _ _) (Nat.le_trans (pgs_len _ _) (plen m I.pl.ok))) (by decide)
        · rw [upd_ne npD]; exact e1
        · rw [upd_same, et, List.filter_append]
          have : List.filter (fun i => decide ((sfOf s.S i).z = k)) [q] = [q] := by simp [List.filter, ey, h']
          rw [this]
          unfold shRefs
          rw [List.map_append]; rfl
      · have h' : ¬ y.z = k := fun e => h (by show V.int ((y.z : Nat) : Int) = V.int ((k : Nat) : Int); rw [e])
        refine ⟨sm, e1, ?_⟩
        rw [e2, et, List.filter_append]
        have : List.filter (fun i => decide ((sfOf s.S i).z = k)) [q] = [] := by simp [List.filter, ey, h']
        rw [this, List.append_nil]
    · rintro H' ⟨sm, e1, e2⟩
      have el : (nV (pgs s.S m.n)).length = (pgs s.S m.n).length := List.length_map _
      rw [el, List.take_length] at e2
      exact kQ D H' hD0 e2 sm
theorem ok_rank (T : Tx K mg A) : Df P w K mg base 2 "rank" ["shelf"] (sp_rank K A) := by
  refine Dd.ok T.d_rank sc_rank bi_rank (fun vs H Q E h => ?_) (fun f cdv Ar outer s H vs Q E hr h => ?_)
  · obtain ⟨pa, z, m, s, i, x, rfl, _⟩ := h; rfl
  · obtain ⟨pa, z, m, s, i, x, rfl, I, hx, k⟩ := h
    refine ⟨_, (pss_one (ps_ret (pe_tup (pa_cons (pe_un un_neg (pe_mf0 (ok_Shelf_out T) T.c_Shelf hr (by decide) (pv 0))) (pa_cons (pe_fld (pv 0) rfl) pa_nil))))), ?_⟩
    have Sx := I.sh hx
    obtain ⟨dx, ho⟩ := Sx.ob
    exact ⟨_, rfl, _, dx, _, rfl, ho, shF_no_out _ _ _, _, _, _, rfl, Sx, _, rfl, _, rfl, Sx.fPage T ⟨(by show 2 ≤ sizeLine; decide), fun q hq => k q hq⟩⟩
theorem ok_staying (T : Tx K mg A) : Df P w K mg base 5 "staying" ["shelves", "slots"] (sp_staying K A) := by
  refine Dd.ok T.d_staying sc_staying bi_staying (fun vs H Q E h => ?_) (fun f cdv Ar outer s H vs Q E hr h => ?_)
  · obtain ⟨pa, z, m, s, a, is, k, rfl, _⟩ := h; rfl
  · obtain ⟨pa, z, m, s, a, is, k, rfl, I, ha, his, hlt, k1, k60, kQ⟩ := h
    obtain ⟨fr, fdr, g, kpr, F, b⟩ := ok_rank (P := P) (w := w) (base := base) T
    have hrk := hr.mono (show 2 + 2 ≤ _ by decide)
    refine ⟨_, (pss_cons (ps_set (i := 2) sc_staying.nd rfl (Or.inl rfl) (pe_callB (cr_sum rfl) (by rfl) T.z_sum (by decide +kernel) (pa_cons (pe_lc (own := [("shelf", 3)]) (g := gName 3) (tt := tYes) (te := (tMeth A.Shelf "out" (sp_Shelf_out K A) [] E0 (tVar 3) tNil)) rfl sc_staying.nd (pi_list (pv 0)) (blkOk_by (own := [("shelf", 3)]) (N := ["shelves", "slots", "things", "shelf", "needed"]) (sc := defScope s_staying) (by decide +kernel)) (fun _ _ _ _ _ => pg_name (i := 3) sc_staying.nd rfl (Or.inl rfl)) (fun _ _ _ _ _ => pts_nil) (fun _ _ _ _ _ => (pe_mf0 (ok_Shelf_out T) T.c_Shelf hr (by decide) (pv 3)))) pa_nil)))
    (pss_cons (ps_set (i := 4) sc_staying.nd rfl (Or.inl rfl) (pe_op op_fdiv (pe_op op_sub (pe_op op_add (pv 2) (pv 1)) pe_int) (pv 1)))
    (pss_one (ps_ret (pe_callB cr_sortedI (by rfl) T.z_sorted (by decide +kernel) (pa_cons (pe_lc (own := [("shelf", 3)]) (g := gName 3) (tt := tYes) (te := (tFld K (tVar 3) "page")) rfl sc_staying.nd (pi_list (pe_slice sl_list (pe_callBK (cr_sortKey F hrk b) (by rfl) T.z_sorted (by decide +kernel) (pa_cons (pv 0) pa_nil) (pk_cons (pe_glob (v := .ref fr) rfl g rfl) pk_nil)) po_none (po_some (pv 4)))) (blkOk_by (own := [("shelf", 3)]) (N := ["shelves", "slots", "things", "shelf", "needed"]) (sc := defScope s_staying) (by decide +kernel)) (fun _ _ _ _ _ => pg_name (i := 3) sc_staying.nd rfl (Or.inl rfl)) (fun _ _ _ _ _ => pts_nil) (fun _ _ _ _ _ => (pe_fld (pv 3) rfl))) pa_nil)))))), ?_⟩
    have inj : ∀ i j, i ∈ is → j ∈ is → s.ad (.p i) = s.ad (.p j) → i = j := fun i j hi hj e => by
      have := I.inj (.p i) (.p j) (his i hi) (his j hj) e
      injection this
    have hn40 := plen m I.pl.ok
    have il : is.length ≤ 40 := by
      have e : is = (List.range m.n).filter fun i => decide (i ∈ is) := eq_lt hlt (List.pairwise_lt_range.filter _) fun i => by
        rw [List.mem_filter, List.mem_range, decide_eq_true_eq]
        refine ⟨fun h => ⟨?_, h⟩, fun h => h.2⟩
        obtain ⟨x, hx⟩ := Option.isSome_iff_exists.mp (his i h)
        exact (I.ok i x hx).1
      rw [e]
      refine Nat.le_trans (List.length_filter_le _ _) ?_
      rw [List.length_range]; exact hn40
    have rl : (shRefs s is).length ≤ 40 := by unfold shRefs; rw [List.length_map]; exact il
    -- things
    refine ⟨_, rfl, a, rfl, ⟨_, SqL.of ha⟩, fun D hD => ?_⟩
    have naD : a ≠ D := fun e => by rw [e, hD] at ha; cases ha
    refine lc_list (K := K) (a := a) (xs := shRefs s is) (fun i H' => Same H H' ∧ H' D = some (.lst ((is.take i).map fun i => V.int ((cn s.S i : Nat) : Int)))) ⟨sm_n hD, upd_same⟩ (fun i H' _ h => SqL.of (h.1 _ _ ha)) ?_ ?_
    · rintro i x H' hx ⟨sm, e2⟩
      obtain ⟨q, hq, rfl⟩ := shRefs_at hx
      obtain ⟨y, hy⟩ := Option.isSome_iff_exists.mp (his q (List.mem_of_getElem? hq))
      have I' := I.same sm
      have Sy := I'.sh hy
      obtain ⟨dx, ho⟩ := Sy.ob
      refine ⟨rfl, ?_⟩
      refine ⟨_, rfl, _, dx, _, rfl, ho, shF_no_out _ _ _, _, _, _, rfl, Sy, _, e2, ?_, Same.up sm hD, ?_⟩
      · rw [List.length_map, List.length_take]
        exact Nat.lt_of_le_of_lt (Nat.le_trans (Nat.min_le_right _ _) il) (by decide)
      · rw [upd_same, take_at hq, List.map_append, List.map_singleton, cn_at hy]
        rfl
    rintro H1 ⟨sm1, e1⟩
    have el : (shRefs s is).length = is.length := List.length_map _
    rw [el, List.take_length] at e1
    have e1' : H1 D = some (.lst ((is.map fun i => ((cn s.S i : Nat) : Int)).map V.int)) := by rw [e1, List.map_map]; rfl
    have esum := sum_cast s.S is
    refine ⟨D, _, rfl, SqL.of e1', ?_⟩
    rw [esum]
    have eneed : (((sumC s.S is : Nat) : Int) + (k : Nat) - 1) / ((k : Nat) : Int) = ((needL s.S is k : Nat) : Int) := by
      unfold needL
      rw [show ((sumC s.S is : Nat) : Int) + (k : Nat) - 1 = ((sumC s.S is + k - 1 : Nat) : Int) by omega]
      exact (Int.natCast_ediv _ _).symm
    refine ⟨_, rfl, _, rfl, _, _, rfl, rfl, _, _, rfl, rfl, _, rfl, _, _, rfl, rfl, ⟨by show (0 : Int) < ((k : Nat) : Int); omega, by show ((k : Nat) : Int) < 1073741824; omega⟩, ?_⟩
    dsimp only
    rw [eneed]
    have ha1 : H1 a = some (.lst (shRefs s is)) := sm1 _ _ ha
    have I1 := I.same sm1
    refine ⟨_, rfl, a, shRefs s is, gk s is, rfl, rfl, SqL.of ha1, Nat.le_trans rl (by decide), fun H2 x sm2 hx Q' hQ => ?_, fun ys p H2 hys hpw hp sm2 e2 => ?_⟩
    · obtain ⟨q, hq, rfl⟩ := List.mem_map.mp hx
      obtain ⟨y, hy⟩ := Option.isSome_iff_exists.mp (his q hq)
      refine ⟨pa, z, m, s, q, y, rfl, I1.same sm2, hy, fun u hu => ?_⟩
      have := hQ u hu
      rw [gk_at inj hq, cn_at hy] at this
      exact this
    have hyr : ys = shRefs s (rankedL s.S is) := by
      obtain ⟨js, c1, c2⟩ := perm_lift (fun i => V.ref (s.ad (.p i))) hys is rfl
      rw [← c2]
      unfold shRefs
      congr 1
      refine eq_srt rkLe_anti ?_ (ranked_pw s.S is) (c1.trans (ranked_perm s.S is).symm)
      rw [← c2] at hpw
      refine (List.pairwise_map.mp hpw).imp_of_mem fun {x y} hx hy h => ?_
      have hx' := c1.mem_iff.mp hx
      have hy' := c1.mem_iff.mp hy
      rw [gk_at inj hx', gk_at inj hy', SrtO.lexB_no] at h
      rw [rkLe_iff]
      dsimp only at h
      omega
    subst hyr
    refine ⟨_, rfl, _, rfl, p, _, rfl, SqL.of e2, fun u hu => ?_⟩
    rw [cutV_take]
    have etk : (shRefs s (rankedL s.S is)).take (needL s.S is k) = shRefs s ((rankedL s.S is).take (needL s.S is k)) := by unfold shRefs; rw [List.map_take]
    rw [etk]
    have sm2a : Same H (upd H2 u (.lst (shRefs s ((rankedL s.S is).take (needL s.S is k))))) := fun b o e => sm_n hu _ _ (sm2 _ _ (sm1 _ _ e))
    refine ⟨u, rfl, ⟨_, SqL.of upd_same⟩, fun D2 hD2 => ?_⟩
    have nuD : u ≠ D2 := fun e => by rw [← e, upd_same] at hD2; cases hD2
    have hD20 : H D2 = none := by
      cases q : H D2 with
      | none => rfl
      | some o => rw [sm2a _ _ q] at hD2; cases hD2
    have lst40 : ∀ i, (((rankedL s.S is).take (needL s.S is k)).take i).length ≤ 40 := fun i => by
      rw [List.length_take, List.length_take, (ranked_perm s.S is).length_eq]
      omega
    have tmem : ∀ i, i ∈ (rankedL s.S is).take (needL s.S is k) → i ∈ is := fun i h => (ranked_perm s.S is).mem_iff.mp (List.mem_of_mem_take h)
    generalize hrt : (rankedL s.S is).take (needL s.S is k) = rt at sm2a lst40 tmem hD2 ⊢
    refine lc_list (K := K) (a := u) (xs := shRefs s rt) (fun i H' => Same H H' ∧ H' u = some (.lst (shRefs s rt)) ∧ H' D2 = some (.lst (nV (rt.take i)))) ⟨Same.up sm2a hD20, ?_, upd_same⟩ (fun i H' _ h => SqL.of h.2.1) ?_ ?_
    · rw [upd_ne nuD]; exact upd_same
    · rintro i x H' hx ⟨sm, e1, e2⟩
      obtain ⟨q, hq, rfl⟩ := shRefs_at hx
      obtain ⟨y, hy⟩ := Option.isSome_iff_exists.mp (his q (tmem q (List.mem_of_getElem? hq)))
      have Sy := (I.same sm).sh hy
      refine ⟨rfl, ?_⟩
      refine ⟨_, rfl, Sy.fPage T ⟨_, e2, ?_, Same.up sm hD20, ?_, ?_⟩⟩
      · rw [List.length_map]; exact Nat.lt_of_le_of_lt (lst40 i) (by decide)
      · rw [upd_ne nuD]; exact e1
      · have e6 : nV (rt.take i ++ [q]) = nV (rt.take i) ++ [V.int ((q : Nat) : Int)] := List.map_append
        rw [upd_same, take_at hq, e6]; rfl
    · rintro H' ⟨sm, e1, e2⟩
      have el : (shRefs s rt).length = rt.length := List.length_map _
      rw [el, List.take_length] at e2
      have e2' : H' D2 = some (.lst ((castI rt).map V.int)) := by rw [castI_V]; exact e2
      refine ⟨D2, _, rfl, SqL.of e2', fun ns' q h1 h2 hq => ?_⟩
      have hpm : (stayL s.S is k).Perm rt := by
        have nd1 : (stayL s.S is k).Nodup := (nodup_lt hlt).filter _
        have nd2 : rt.Nodup := by
          rw [← hrt]
          exact (List.take_sublist _ _).nodup ((ranked_perm s.S is).nodup_iff.mpr (nodup_lt hlt))
        refine (List.perm_ext_iff_of_nodup nd1 nd2).mpr fun i => ?_
        unfold stayL
        rw [List.mem_filter, decide_eq_true_eq, hrt]
        exact ⟨fun h => h.2, fun h => ⟨tmem i h, h⟩⟩
      have e3 : ns' = castI (stayL s.S is k) := eq_le h2 (castI_le (hlt.filter _)) (h1.trans (hpm.symm.map _))
      have hq0 : H q = none := by
        cases c : H q with
        | none => rfl
        | some o => rw [sm _ _ c] at hq; cases hq
      refine kQ q _ hq0 ?_ (Same.up sm hq0)
      rw [upd_same, e3, castI_V]
end
end Sb
namespace Sb
open PySem PySem.Spec PyProof.Rows L2
/-! ### moving, in plain Lean -/
def hasFree (S : Tb) (p : Nat) : Bool := decide (cnt (sfOf S p).tk < (sfOf S p).tk.length)
def cpy (cs : List Int) (a b k : Nat) : List Int := (List.range k).foldl (fun c j => c.set (b + j) (c.getD (a + j) 0)) cs
theorem cpy_succ (cs : List Int) (a b k : Nat) : cpy cs a b (k + 1) = (cpy cs a b k).set (b + k) ((cpy cs a b k).getD (a + k) 0) := by unfold cpy; rw [List.range_succ, foldl_snoc']
theorem cpy_len (cs : List Int) (a b : Nat) : ∀ k, (cpy cs a b k).length = cs.length
  | 0 => rfl
  | k + 1 => by rw [cpy_succ, List.length_set, cpy_len cs a b k]
structure Gs where
  S : Tb
  cs : List Int
  mv : List (Nat × Nat)
def mvS (S : Tb) (i j g j2 : Nat) : Tb := updT (updT S g (some ⟨(sfOf S g).z, (sfOf S g).tk.set j2 true⟩)) i (some ⟨(sfOf S i).z, (sfOf S i).tk.set j false⟩)
def mv1 (m : PlM) (ps : List Nat) (i : Nat) (a : Gs) (j : Nat) : Gs := if (sfOf a.S i).tk.getD j false = true then
    let g := (ps.find? (hasFree a.S)).getD i
    let j2 := (ff (sfOf a.S g).tk).getD 0
    let z := (sfOf a.S i).z
    ⟨mvS a.S i j g j2, cpy a.cs (i * m.L + j * z) (g * m.L + j2 * z) z, a.mv ++ [(i * m.L + j * z, g * m.L + j2 * z)]⟩
  else a
def mvP (m : PlM) (ps : List Nat) (k : Nat) (a : Gs) (i : Nat) : Gs := (List.range k).foldl (mv1 m ps i) a
def stayO (m : PlM) (S : Tb) (z : Nat) : List Nat := stayL S (own S m.n z) (m.L / z)
def leaveO (m : PlM) (S : Tb) (z : Nat) : List Nat := (own S m.n z).filter fun i => decide (i ∉ stayO m S z)
def gathG (m : PlM) (S : Tb) (cs : List Int) (z : Nat) : Gs := (leaveO m S z).foldl (mvP m (stayO m S z) (m.L / z)) ⟨S, cs, []⟩
def gathS (m : PlM) (S : Tb) (cs : List Int) (z : Nat) : Tb := dropAll (gathG m S cs z).S (leaveO m S z)
/-- the same shelves, with other things -/
structure SameSh (S0 S : Tb) : Prop where
  some_ : ∀ q, (S q).isSome = (S0 q).isSome
  z : ∀ q, (sfOf S q).z = (sfOf S0 q).z
  len : ∀ q, (sfOf S q).tk.length = (sfOf S0 q).tk.length
theorem SameSh.refl (S : Tb) : SameSh S S := ⟨fun _ => rfl, fun _ => rfl, fun _ => rfl⟩
theorem SameSh.trans {S0 S1 S2 : Tb} (h : SameSh S0 S1) (h' : SameSh S1 S2) : SameSh S0 S2 := ⟨fun q => (h'.some_ q).trans (h.some_ q), fun q => (h'.z q).trans (h.z q), fun q => (h'.len q).trans (h.len q)⟩
theorem SameSh.upd {S : Tb} {g : Nat} {x y : Sf} (h : S g = some x) (hz : y.z = x.z) (hl : y.tk.length = x.tk.length) : SameSh S (updT S g (some y)) := by
  refine ⟨fun q => ?_, fun q => ?_, fun q => ?_⟩
  · by_cases e : q = g
    · subst e; rw [updT_same, h]; rfl
    · rw [updT_ne e]
  · by_cases e : q = g
    · subst e; rw [sfOf_at updT_same, sfOf_at h, hz]
    · unfold sfOf; rw [updT_ne e]
  · by_cases e : q = g
    · subst e; rw [sfOf_at updT_same, sfOf_at h, hl]
    · unfold sfOf; rw [updT_ne e]
theorem cn_sf {S : Tb} {q : Nat} : cn S q = cnt (sfOf S q).tk := by
  unfold cn sfOf
  cases S q <;> rfl
theorem sumC_upd {S : Tb} {g : Nat} {y : Sf} : ∀ {l : List Nat}, l.Nodup → (g ∈ l → sumC (updT S g (some y)) l + cn S g = sumC S l + cnt y.tk) ∧ (g ∉ l → sumC (updT S g (some y)) l = sumC S l)
  | [], _ => ⟨(fun h => nomatch h), fun _ => rfl⟩
  | a :: l, nd => by
    obtain ⟨n1, n2⟩ := List.nodup_cons.mp nd
    obtain ⟨i1, i2⟩ := sumC_upd (S := S) (g := g) (y := y) n2
    have e1 : ∀ T : Tb, sumC T (a :: l) = cn T a + sumC T l := fun T => rfl
    constructor
    · intro h
      rw [e1, e1]
      by_cases q : g = a
      · subst q
        rw [i2 n1]
        have : cn (updT S g (some y)) g = cnt y.tk := cn_at updT_same
        omega
      · have hm : g ∈ l := by
          rcases List.mem_cons.mp h with h | h
          · exact absurd h q
          · exact h
        have := i1 hm
        have e2 : cn (updT S g (some y)) a = cn S a := by unfold cn; rw [updT_ne (fun z => q z.symm)]
        omega
    · intro h
      rw [e1, e1]
      have q : a ≠ g := fun z => h (by rw [z]; exact List.mem_cons_self)
      have e2 : cn (updT S g (some y)) a = cn S a := by unfold cn; rw [updT_ne q]
      rw [e2, i2 (fun z => h (List.mem_cons_of_mem _ z))]
theorem sumC_split (S : Tb) (p : Nat → Bool) : ∀ l : List Nat, sumC S l = sumC S (l.filter p) + sumC S (l.filter fun i => !(p i))
  | [] => rfl
  | a :: l => by
    have ih := sumC_split S p l
    have e1 : ∀ (T : Tb) l, sumC T (a :: l) = cn T a + sumC T l := fun T _ => rfl
    cases h : p a
    · rw [List.filter_cons_of_neg (by rw [h]; decide), List.filter_cons_of_pos (by rw [h]; rfl), e1, e1, ih]; omega
    · rw [List.filter_cons_of_pos h, List.filter_cons_of_neg (by rw [h]; decide), e1, e1, ih]; omega
theorem sumC_ge {S : Tb} {i : Nat} : ∀ {l : List Nat}, i ∈ l → cn S i ≤ sumC S l
  | a :: l, h => by
    have e1 : sumC S (a :: l) = cn S a + sumC S l := rfl
    rw [e1]
    rcases List.mem_cons.mp h with h | h
    · subst h; omega
    · have := sumC_ge (S := S) h; omega
theorem sumC_all {S : Tb} {k : Nat} : ∀ {l : List Nat}, (∀ i ∈ l, k ≤ cn S i) → l.length * k ≤ sumC S l
  | [], _ => by simp [sumC]
  | a :: l, h => by
    have e1 : sumC S (a :: l) = cn S a + sumC S l := rfl
    have h1 := h a List.mem_cons_self
    have h2 := sumC_all (S := S) (k := k) (l := l) fun i hi => h i (List.mem_cons_of_mem _ hi)
    rw [e1, List.length_cons, Nat.succ_mul]
    omega
theorem stay_perm {S : Tb} {is : List Nat} {k : Nat} (hlt : is.Pairwise (· < ·)) : (stayL S is k).Perm ((rankedL S is).take (needL S is k)) := by
  have nd1 : (stayL S is k).Nodup := (nodup_lt hlt).filter _
  have nd2 : ((rankedL S is).take (needL S is k)).Nodup := (List.take_sublist _ _).nodup ((ranked_perm S is).nodup_iff.mpr (nodup_lt hlt))
  refine (List.perm_ext_iff_of_nodup nd1 nd2).mpr fun i => ?_
  unfold stayL
  rw [List.mem_filter, decide_eq_true_eq]
  exact ⟨fun h => h.2, fun h => ⟨(ranked_perm S is).mem_iff.mp (List.mem_of_mem_take h), h⟩⟩
theorem stay_len {S : Tb} {is : List Nat} {k : Nat} (hlt : is.Pairwise (· < ·)) : (stayL S is k).length = min (needL S is k) is.length := by
  rw [(stay_perm hlt).length_eq, List.length_take, (ranked_perm S is).length_eq]
/-- while one is to be moved, a shelf that stays has a free slot -/
theorem free_ex {S0 S : Tb} {is : List Nat} {k i : Nat} (hlt : is.Pairwise (· < ·)) (h1 : 1 ≤ k) (hl : ∀ p ∈ is, (sfOf S p).tk.length = k) (hs : sumC S is = sumC S0 is) (hi : i ∈ is) (hn : i ∉ stayL S0 is k) (hc : 1 ≤ cn S i) :
    ∃ g, (stayL S0 is k).find? (hasFree S) = some g := by
  cases e : (stayL S0 is k).find? (hasFree S) with
  | some g => exact ⟨g, rfl⟩
  | none =>
    exfalso
    have full : ∀ p ∈ stayL S0 is k, k ≤ cn S p := fun p hp => by
      have h2 := List.find?_eq_none.mp e p hp
      have h3 := hl p (List.mem_filter.mp hp).1
      unfold hasFree at h2
      rw [decide_eq_true_eq, h3] at h2
      rw [cn_sf]
      omega
    have ge := sumC_all full
    have sp := sumC_split S (fun i => decide (i ∈ (rankedL S0 is).take (needL S0 is k))) is
    have hin : i ∈ is.filter fun q => !(decide (q ∈ (rankedL S0 is).take (needL S0 is k))) := by
      rw [List.mem_filter]
      refine ⟨hi, ?_⟩
      have : ¬ i ∈ (rankedL S0 is).take (needL S0 is k) := fun h => hn (by unfold stayL; rw [List.mem_filter]; exact ⟨hi, decide_eq_true h⟩)
      rw [decide_eq_false this]; rfl
    have g2 := sumC_ge (S := S) hin
    have eS : sumC S (is.filter fun i => decide (i ∈ (rankedL S0 is).take (needL S0 is k))) = sumC S (stayL S0 is k) := rfl
    have sl := stay_len (S := S0) (k := k) hlt
    have nl : needL S0 is k ≤ is.length := by
      rcases Nat.lt_or_ge is.length (needL S0 is k) with h | h
      · exfalso
        refine hn ((stay_perm hlt).mem_iff.mpr ?_)
        rw [List.take_of_length_le (by rw [(ranked_perm S0 is).length_eq]; omega)]
        exact (ranked_perm S0 is).mem_iff.mpr hi
      · exact h
    rw [Nat.min_eq_left nl] at sl
    rw [sl] at ge
    have hn2 : sumC S0 is ≤ needL S0 is k * k := by
      unfold needL
      have := Nat.div_add_mod (sumC S0 is + k - 1) k
      have h5 := Nat.mod_lt (sumC S0 is + k - 1) h1
      rw [Nat.mul_comm] at this
      omega
    omega
theorem mvS_same {S : Tb} {i j g j2 : Nat} {x y : Sf} (hx : S i = some x) (hy : S g = some y) (n : g ≠ i) : SameSh S (mvS S i j g j2) := by
  unfold mvS
  have s1 := SameSh.upd (y := ⟨y.z, y.tk.set j2 true⟩) hy rfl (List.length_set ..)
  have hx1 : updT S g (some ⟨y.z, y.tk.set j2 true⟩) i = some x := by rw [updT_ne n.symm, hx]
  have s2 := SameSh.upd (y := ⟨x.z, x.tk.set j false⟩) hx1 rfl (List.length_set ..)
  rw [sfOf_at hx, sfOf_at hy]
  exact s1.trans s2
theorem mvS_sum {S : Tb} {is : List Nat} {i j g j2 : Nat} {x y : Sf} (hx : S i = some x) (hy : S g = some y) (n : g ≠ i) (nd : is.Nodup) (hi : i ∈ is) (hg : g ∈ is) (hj : x.tk[j]? = some true) (hj2 : y.tk[j2]? = some false) : sumC (mvS S i j g j2) is = sumC S is := by
  unfold mvS
  rw [sfOf_at hx, sfOf_at hy]
  have a1 := (sumC_upd (S := S) (g := g) (y := ⟨y.z, y.tk.set j2 true⟩) nd).1 hg
  have a2 := (sumC_upd (S := updT S g (some ⟨y.z, y.tk.set j2 true⟩)) (g := i) (y := ⟨x.z, x.tk.set j false⟩) nd).1 hi
  have c1 : cn S g = cnt y.tk := cn_at hy
  have c2 : cn (updT S g (some ⟨y.z, y.tk.set j2 true⟩)) i = cnt x.tk := cn_at (by rw [updT_ne n.symm, hx])
  have c3 := cnt_set_true hj2
  have c4 := cnt_set_false hj
  dsimp only at a1 a2
  omega
theorem foot_sub {s s' : Hs} (h : s'.ad = s.ad) (hs : ∀ q, (s'.S q).isSome = true → (s.S q).isSome = true) : ∀ a, foot s' a → foot s a := by
  rintro a ⟨l, hl, e⟩
  rw [h] at e
  refine ⟨l, ?_, e⟩
  cases l with
  | p i => exact hs i hl
  | t i => exact hs i hl
  | _ => trivial
theorem RmI.nofoot {A : Ad} {H : Hp} {pa z a : Addr} {m : PlM} {s : Hs} (I : RmI A H pa z m s) (h : H a = none) : ¬ foot s a := fun ⟨l, hl, e⟩ => by
  have := I.at_ l hl
  rw [e, h] at this
  cases this
theorem RmI.noTup {A : Ad} {H : Hp} {pa z a : Addr} {m : PlM} {s : Hs} {r : List V} (I : RmI A H pa z m s) (h : H a = some (.tup r)) : ¬ foot s a := fun ⟨l, hl, e⟩ => by
  have := I.at_ l hl
  rw [e, h] at this
  cases l <;> cases this
/-- a list of tuples that is not the room's stays -/
theorem TupL.stp {A : Ad} {H H' : Hp} {pa z q : Addr} {m : PlM} {s : Hs} {F' : Addr → Prop} {rows : List (List V)} (h : TupL H q rows) (I : RmI A H pa z m s) (n : ¬ foot s q) (k : Stp (foot s) H F' H') : TupL H' q rows := by
  obtain ⟨ts, h1, h2⟩ := h
  exact ⟨ts, k.1 _ _ h1 n, map_keep h2 fun t r _ e => k.1 _ _ e (I.noTup e)⟩
theorem none_back {A : Ad} {H H' : Hp} {pa z q : Addr} {m : PlM} {s s' : Hs} (I' : RmI A H' pa z m s') (k : Stp (foot s) H (foot s') H') (hs : ∀ a, foot s a → foot s' a) (h : H' q = none) : H q = none := by
  cases e : H q with
  | none => rfl
  | some o =>
    by_cases f : foot s q
    · exact absurd (hs q f) (I'.nofoot h)
    · have := k.1 _ _ e f
      rw [h] at this
      cases this
theorem nones_same {S0 S : Tb} (h : SameSh S0 S) (n : Nat) : nones S n = nones S0 n := by
  unfold nones
  refine List.filter_congr fun q _ => ?_
  have := h.some_ q
  cases e : S q <;> cases e0 : S0 q <;> rw [e, e0] at this <;> first | rfl | cases this
def sp_moved (K : PySem.W.Frag) (A : Ad) : Sp := fun vs H Q _ => ∃ (pa z : Addr) (m : PlM) (s : Hs) (i j : Nat) (x y : Sf) (pl : Addr) (ps : List Nat) (g j2 : Nat), vs = [.ref (s.ad .rm), .ref (s.ad (.p i)), .int (j : Nat), .ref pl] ∧
  RmI A H pa z m s ∧ s.S i = some x ∧ x.tk[j]? = some true ∧ H pl = some (.lst (nV ps)) ∧ (∀ p ∈ ps, (s.S p).isSome = true) ∧ ps.find? (hasFree s.S) = some g ∧ g ≠ i ∧ s.S g = some y ∧ y.z = x.z ∧ ff y.tk = some j2 ∧
  ∀ q s' H', RmI A H' pa z m s' → s'.S = mvS s.S i j g j2 → s'.cs = cpy s.cs (i * m.L + j * x.z) (g * m.L + j2 * x.z) x.z → s'.ad = s.ad → s'.bare = s.bare → H q = none → H' q = some (.tup (pairV (i * m.L + j * x.z, g * m.L + j2 * x.z))) →
    Stp (foot s) H (foot s') H' → Q (.ref q) H'
def goalV (s : Hs) (i : Nat) (l : List Nat) : V := .ref (s.ad (.p ((l.find? (hasFree s.S)).getD i)))
section
variable {P : Program} {w : World} {K : PySem.W.Frag} {mg : Str → Option Value} {base : Heap} {A : Ad}
theorem ok_moved (T : Tx K mg A) : Df P w K mg base 3 "moved" ["room", "shelf", "slot", "pages"] (sp_moved K A) := by
  refine Dd.ok T.d_moved sc_moved bi_moved (fun vs H Q E h => ?_) (fun f cdv Ar outer s H vs Q E hr h => ?_)
  · obtain ⟨pa, z, m, s, i, j, x, y, pl, ps, g, j2, rfl, _⟩ := h; rfl
  · obtain ⟨pa, z, m, s, i, j, x, y, pl, ps, g, j2, rfl, I, hx, hj, hpl, hps, hg, ngi, hy, yz, hj2, k⟩ := h
    refine ⟨_, (pss_cons (ps_set (i := 4) sc_moved.nd rfl (Or.inl rfl) (pv 1))
    (pss_cons (ps_for (passes_of rfl) rfl (pi_reversed (by rfl) T.z_reversed (pa_cons (pv 3) pa_nil)) (pg_name (i := 5) sc_moved.nd rfl (Or.inl rfl))
    (pss_one (ps_if (pt_val (pe_mf0 (ok_Shelf_has_free T) T.c_Shelf hr (by decide) (pe_dget (hu_of hr) (pe_fld (pv 0) rfl) (pv 5) (fun _ _ => rfl)))) (pss_one (ps_set (i := 4) sc_moved.nd rfl (Or.inl rfl) (pe_dget (hu_of hr) (pe_fld (pv 0) rfl) (pv 5) (fun _ _ => rfl))))
    pss_nil)))
    (pss_cons (ps_set (i := 6) sc_moved.nd rfl (Or.inl rfl) (pe_mf (ok_Room_place_of T) T.c_Room hr (by decide) (pv 0) (pa_cons (pv 1) (pa_cons (pv 2) pa_nil))))
    (pss_cons (ps_set (i := 7) sc_moved.nd rfl (Or.inl rfl) (pe_mf (ok_Room_place_of T) T.c_Room hr (by decide) (pv 0) (pa_cons (pv 4) (pa_cons (pe_mf0 (ok_Shelf_take T) T.c_Shelf hr (by decide) (pv 4)) pa_nil))))
    (pss_cons (ps_for (passes_of rfl) rfl (pi_range1 (by rfl) T.z_range (pa_cons (pe_fld (pv 1) rfl) pa_nil)) (pg_name (i := 8) sc_moved.nd rfl (Or.inl rfl))
    (pss_one (ps_asg (pe_ix ix_list (pe_fld (pv 0) rfl) (pe_op op_add (pv 6) (pv 8)) (fun _ _ => rfl)) (pg_sub (pe_fld (pv 0) rfl) (pe_op op_add (pv 7) (pv 8)) set_list))))
    (pss_cons (ps_expr (pe_mf (ok_Shelf_give T) T.c_Shelf hr (by decide) (pv 1) (pa_cons (pv 2) pa_nil)))
    (pss_one (ps_ret (pe_tup (pa_cons (pv 6) (pa_cons (pv 7) pa_nil))))))))))), ?_⟩
    have pll : (nV ps).length = ps.length := List.length_map _
    refine ⟨_, rfl, _, rfl, pl, _, rfl, SqL.of hpl, RT.for_Itv (K := K) (a := pl) (xs := nV ps) (fun t σ H' => H' = H ∧ ∃ v5, σ = [some (.ref (s.ad .rm)), some (.ref (s.ad (.p i))), some (.int (j : Nat)), some (.ref pl), some (goalV s i (ps.drop (ps.length - t))), v5, none, none, none]) ⟨rfl, none, ?_⟩ (fun t σ H' h => by rw [h.1]; exact SqL.of hpl) ?_ ?_⟩
    · have e : goalV s i (ps.drop (ps.length - 0)) = .ref (s.ad (.p i)) := by rw [Nat.sub_zero, List.drop_length]; rfl
      rw [e]; rfl
    · rintro t v σ H' ht hv ⟨rfl, v5, rfl⟩
      rw [pll] at hv ht
      obtain ⟨p, hp, rfl⟩ := nV_at hv
      obtain ⟨u, hu⟩ := Option.isSome_iff_exists.mp (hps p (List.mem_of_getElem? hp))
      have Su := I.sh hu
      obtain ⟨dx, ho⟩ := Su.ob
      have ed : ps.drop (ps.length - (t + 1)) = p :: ps.drop (ps.length - t) := by
        obtain ⟨h1, h2⟩ := List.getElem?_eq_some_iff.mp hp
        rw [show ps.length - (t + 1) = ps.length - 1 - t by omega, List.drop_eq_getElem_cons h1, h2, show ps.length - 1 - t + 1 = ps.length - t by omega]
      refine ⟨_, rfl, I.fRows T ⟨_, rfl, _, _, rfl, I.dget hu, _, dx, _, rfl, ho, shF_no_has_free _ _ _, _, _, _, rfl, Su, _, rfl, ?_⟩⟩
      have hfu : hasFree s.S p = decide (cnt (shM p u).tk < (shM p u).tk.length) := by unfold hasFree; rw [sfOf_at hu]; rfl
      rw [← hfu]
      refine iteB (fun h => ?_) (fun h => ?_)
      · refine ⟨_, rfl, I.fRows T ⟨_, rfl, _, _, rfl, I.dget hu, rfl, some (.int (p : Nat)), ?_⟩⟩
        have e : goalV s i (ps.drop (ps.length - (t + 1))) = .ref (s.ad (.p p)) := by
          rw [ed]; unfold goalV; rw [List.find?_cons_of_pos h]; rfl
        rw [e]; rfl
      · refine ⟨rfl, some (.int (p : Nat)), ?_⟩
        have e : goalV s i (ps.drop (ps.length - (t + 1))) = goalV s i (ps.drop (ps.length - t)) := by
          rw [ed]; unfold goalV; rw [List.find?_cons_of_neg (by rw [h]; decide)]
        rw [e]; rfl
    rintro σ H0 ⟨eH, v5, rfl⟩
    have eH' := eH.symm
    subst eH'
    have egv : goalV s i (ps.drop (ps.length - (nV ps).length)) = .ref (s.ad (.p g)) := by rw [pll, Nat.sub_self, List.drop_zero]; unfold goalV; rw [hg]; rfl
    rw [egv]
    obtain ⟨x1, x2, x3⟩ := I.ok i x hx
    obtain ⟨y1, y2, y3⟩ := I.ok g y hy
    have hz := I.pl.ok.zr x2
    have h60 := I.pl.ok.L60
    have hjl : j < m.L / x.z := by rw [← x3]; exact (List.getElem?_eq_some_iff.mp hj).1
    have hj2l : j2 < m.L / x.z := by rw [← yz, ← y3]; exact ff_lt hj2
    have yl : y.tk.length ≤ 1000 := by rw [y3]; exact Nat.le_trans (Nat.div_le_self _ _) (by omega)
    have xl : x.tk.length ≤ 1000 := by rw [x3]; exact Nat.le_trans (Nat.div_le_self _ _) (by omega)
    -- here
    refine ⟨_, rfl, _, _, _, rfl, I.rm, rmF_no (by decide) _ _ _ _, _, rfl, _, rfl, pa, z, m, s, i, j, x, rfl, I, hx, ?_⟩
    -- there
    have Sy := I.sh hy
    obtain ⟨dy, hoy⟩ := Sy.ob
    refine ⟨_, rfl, _, _, _, rfl, I.rm, rmF_no (by decide) _ _ _ _, _, rfl, _, rfl, _, dy, _, rfl, hoy, shF_no_take _ _ _, _, _, _, rfl, Sy, yl, (fun h => absurd (hj2.symm.trans h) (by intro q; cases q)), fun j2' H2 hj2' sh2 b2 => ?_⟩
    cases hj2.symm.trans hj2'
    obtain ⟨dx2, I2⟩ := I.putSh (y := ⟨y.z, y.tk.set j2 true⟩) hy sh2 b2 rfl (List.length_set ..)
    have st2 := Stp.but2 (s := s) (y := ⟨y.z, y.tk.set j2 true⟩) (dx := dx2) hy b2
    have fs2 : ∀ a, foot { s with dx := dx2, S := updT s.S g (some ⟨y.z, y.tk.set j2 true⟩) } a ↔ foot s a := foot_set hy
    have hx2 : updT s.S g (some ⟨y.z, y.tk.set j2 true⟩) i = some x := by rw [updT_ne ngi.symm, hx]
    refine ⟨pa, z, m, { s with dx := dx2, S := updT s.S g (some ⟨y.z, y.tk.set j2 true⟩) }, g, j2, ⟨y.z, y.tk.set j2 true⟩, rfl, I2, updT_same, ?_⟩
    have ep1 : plc m i j x = i * m.L + j * x.z := rfl
    have ep2 : plc m g j2 ⟨y.z, y.tk.set j2 true⟩ = g * m.L + j2 * x.z := by unfold plc; rw [yz]
    rw [ep1, ep2]
    -- the cells
    have Sx2 := I2.sh (i := i) hx2
    refine ⟨_, rfl, Sx2.fSize T ⟨_, rfl, ?_, ?_, for_range (lo := 0) (n := _) (fun t σ H' => ∃ v8, σ = [some (.ref (s.ad .rm)), some (.ref (s.ad (.p i))), some (.int (j : Nat)), some (.ref pl), some (.ref (s.ad (.p g))), v5, some (.int (i * m.L + j * x.z : Nat)), some (.int (g * m.L + j2 * x.z : Nat)), v8] ∧
      RmI A H' pa z m { s with dx := dx2, S := updT s.S g (some ⟨y.z, y.tk.set j2 true⟩), cs := cpy s.cs (i * m.L + j * x.z) (g * m.L + j2 * x.z) t } ∧ Stp (foot s) H (foot { s with dx := dx2, S := updT s.S g (some ⟨y.z, y.tk.set j2 true⟩) }) H') ⟨_, rfl, I2, st2⟩ ?_ ?_⟩⟩
    · have esz : (shM i x).size = ((x.z : Nat) : Int) := rfl
      rw [esz]; omega
    · have esz : (shM i x).size = ((x.z : Nat) : Int) := rfl
      rw [esz]; omega
    · rintro t σ H' ht ⟨v8, rfl, J, st⟩
      have ht2 : t < x.z := by
        have : ((x.z : Nat) : Int).toNat = x.z := Int.toNat_natCast _
        exact this ▸ ht
      have hl1 : i * m.L + j * x.z + t < (cpy s.cs (i * m.L + j * x.z) (g * m.L + j2 * x.z) t).length := by rw [cpy_len, I.cl]; exact plc_lt x1 hjl ht2
      have hl2 : g * m.L + j2 * x.z + t < (cpy s.cs (i * m.L + j * x.z) (g * m.L + j2 * x.z) t).length := by rw [cpy_len, I.cl]; exact plc_lt y1 hj2l ht2
      refine ⟨_, rfl, J.fCells T ⟨_, rfl, _, rfl, _, _, rfl, rfl, _, _, _, .int ((cpy s.cs (i * m.L + j * x.z) (g * m.L + j2 * x.z) t).getD (i * m.L + j * x.z + t) 0), rfl, rfl, SqL.of J.c, ?_, ?_⟩⟩
      · refine at_of (j := i * m.L + j * x.z + t) ?_ ?_
        · show ((i * m.L + j * x.z : Nat) : Int) + (0 + (t : Int)) = ((i * m.L + j * x.z + t : Nat) : Int)
          rw [Int.zero_add, ← Int.natCast_add]
        · show ((cpy s.cs (i * m.L + j * x.z) (g * m.L + j2 * x.z) t).map V.int)[i * m.L + j * x.z + t]? = _
          rw [List.getElem?_map, List.getD_eq_getElem?_getD, List.getElem?_eq_getElem hl1]; rfl
      refine ⟨_, rfl, J.fCells T ⟨_, rfl, _, rfl, _, _, rfl, rfl, _, _, _, g * m.L + j2 * x.z + t, rfl, rfl, J.c, ?_, ?_⟩⟩
      · show ixN ((cpy s.cs (i * m.L + j * x.z) (g * m.L + j2 * x.z) t).map V.int).length (((g * m.L + j2 * x.z : Nat) : Int) + (0 + (t : Int))) = _
        rw [List.length_map, Int.zero_add, ← Int.natCast_add]
        exact ixN_at hl2
      have J4 := J.putCells (cs := cpy s.cs (i * m.L + j * x.z) (g * m.L + j2 * x.z) (t + 1)) (by show (cpy s.cs _ _ (t + 1)).length = _; rw [cpy_len]; exact I.cl)
      rw [cpy_succ, List.map_set] at J4
      refine ⟨_, rfl, ?_, st.trans (Stp.put (l0 := .c) trivial)⟩
      rw [cpy_succ]
      exact J4
    · rintro σ H' ⟨v8, rfl, J, st⟩
      have ezt : ((shM i x).size).toNat = x.z := Int.toNat_natCast _
      rw [ezt] at J
      have Sx := J.sh (i := i) hx2
      obtain ⟨dx3, ho3⟩ := Sx.ob
      have eo : isOut (shM i x).tk ((j : Nat) : Int) = true := by
        rw [isOut_nat]
        show x.tk.getD j false = true
        rw [List.getD_eq_getElem?_getD, hj]; rfl
      refine ⟨_, rfl, _, dx3, _, rfl, ho3, shF_no_give _ _ _, _, rfl, _, _, _, _, rfl, Sx, xl, (fun h => by rw [eo] at h; cases h), fun H3 _ sh3 b3 => ?_⟩
      rw [Int.toNat_natCast] at sh3
      obtain ⟨dx4, I4⟩ := J.putSh (y := ⟨x.z, x.tk.set j false⟩) hx2 sh3 b3 rfl (List.length_set ..)
      have st4 := st.trans (Stp.but2 (s := { s with dx := dx2, S := updT s.S g (some ⟨y.z, y.tk.set j2 true⟩), cs := cpy s.cs (i * m.L + j * x.z) (g * m.L + j2 * x.z) x.z }) (y := ⟨x.z, x.tk.set j false⟩) (dx := dx4) hx2 b3)
      have eM : updT (updT s.S g (some ⟨y.z, y.tk.set j2 true⟩)) i (some ⟨x.z, x.tk.set j false⟩) = mvS s.S i j g j2 := by unfold mvS; rw [sfOf_at hx, sfOf_at hy]
      have hsome : ∀ q, (s.S q).isSome = true → (updT (updT s.S g (some ⟨y.z, y.tk.set j2 true⟩)) i (some ⟨x.z, x.tk.set j false⟩) q).isSome = true := fun q hq => by
        by_cases e1 : q = i
        · rw [e1, updT_same]; rfl
        · rw [updT_ne e1]
          by_cases e2 : q = g
          · rw [e2, updT_same]; rfl
          · rw [updT_ne e2]; exact hq
      refine ⟨_, rfl, _, rfl, (by show 2 ≤ sizeLine; decide), fun q hq => ?_⟩
      have hq0 : H q = none := none_back I4 st4 (foot_sub (s' := s) (s := { s with dx := dx4, S := updT (updT s.S g (some ⟨y.z, y.tk.set j2 true⟩)) i (some ⟨x.z, x.tk.set j false⟩), cs := cpy s.cs (i * m.L + j * x.z) (g * m.L + j2 * x.z) x.z }) rfl hsome) hq
      exact k q _ _ (I4.same (sm_n hq)) eM rfl rfl rfl hq0 upd_same (st4.trans (Stp.same (sm_n hq)))
end
end Sb
namespace Sb
open PySem PySem.Spec PyProof.Rows L2
theorem RmI.out {A : Ad} {H : Hp} {pa z a : Addr} {o : HO} {m : PlM} {s : Hs} (I : RmI A H pa z m s) (n : ¬ foot s a) (np : a ≠ pa) (nz : a ≠ z) : RmI A (upd H a o) pa z m s := I.keep fun b u e h => by
  rw [upd_ne]
  · exact e
  · rintro rfl
    rcases h with h | h | h
    · exact n h
    · exact np h
    · exact nz h
theorem inV_nat (q : Nat) (l : List Nat) : inV (.int (q : Nat)) (nV l) = decide (q ∈ l) := by
  rw [← castI_V, inV_int]
  refine decide_eq_decide.mpr ⟨fun h => ?_, fun h => List.mem_map.mpr ⟨q, h, rfl⟩⟩
  obtain ⟨j, hj, e⟩ := List.mem_map.mp h
  have : j = q := by omega
  rw [← this]; exact hj
theorem all_flat_nat (l : List Nat) : (nV l).all flatV = true := by rw [← castI_V]; exact all_flat_int _
/-- how far the gathering is -/
structure GI (A : Ad) (H : Hp) (pa z : Addr) (m : PlM) (s : Hs) (a2 a3 a4 : Addr) (k : Nat) (s1 : Hs) (H1 : Hp) (G : Gs) : Prop where
  I : RmI A H1 pa z m s1
  eS : s1.S = G.S
  eC : s1.cs = G.cs
  mv : TupP H1 a4 G.mv
  eA : s1.ad = s.ad
  eB : s1.bare = s.bare
  same : SameSh s.S s1.S
  sum : sumC s1.S (own s.S m.n k) = sumC s.S (own s.S m.n k)
  h3 : H1 a3 = some (.lst (shRefs s (leaveO m s.S k)))
  h2 : H1 a2 = some (.lst (nV (stayO m s.S k)))
  st : Stp (foot s) H (foot s1) H1
theorem GI.sub {A : Ad} {H H1 : Hp} {pa z a2 a3 a4 : Addr} {m : PlM} {s s1 : Hs} {k : Nat} {G : Gs} (g : GI A H pa z m s a2 a3 a4 k s1 H1 G) : ∀ a, foot s1 a → foot s a := foot_sub g.eA fun q h => by rw [← g.same.some_ q]; exact h
/-- how many moves there are at the most -/
theorem mv1_len (m : PlM) (ps : List Nat) (i : Nat) (a : Gs) (j : Nat) : (mv1 m ps i a j).mv.length ≤ a.mv.length + 1 := by
  unfold mv1
  split
  · simp
  · exact Nat.le_succ _
theorem mvF_len (m : PlM) (ps : List Nat) (i : Nat) : ∀ (l : List Nat) (a : Gs), (l.foldl (mv1 m ps i) a).mv.length ≤ a.mv.length + l.length
  | [], a => Nat.le_refl _
  | j :: l, a => by
    have h1 := mvF_len m ps i l (mv1 m ps i a j)
    have h2 := mv1_len m ps i a j
    rw [List.foldl_cons, List.length_cons]; omega
theorem mvP_len (m : PlM) (ps : List Nat) (k : Nat) : ∀ (l : List Nat) (a : Gs), (l.foldl (mvP m ps k) a).mv.length ≤ a.mv.length + l.length * k
  | [], a => by simp
  | i :: l, a => by
    have h1 := mvP_len m ps k l (mvP m ps k a i)
    have h2 := mvF_len m ps i (List.range k) a
    rw [List.length_range] at h2
    rw [List.foldl_cons, List.length_cons, Nat.succ_mul]
    unfold mvP at h1 ⊢
    omega
def sp_gathered (K : PySem.W.Frag) (A : Ad) : Sp := fun vs H Q _ => ∃ (r pa z : Addr) (m : PlM) (F : Addr → Prop) (S : Tb) (cs : List Int) (k : Nat), vs = [.ref r, .int (k : Nat), .int (m.L / k : Nat)] ∧ RoomAt A H r pa z m F S cs ∧ (k : Int) ∈ m.sizes ∧
  ∀ q H' F', RoomAt A H' r pa z m F' (gathS m S cs k) (gathG m S cs k).cs → TupP H' q (gathG m S cs k).mv → H q = none → ¬ F' q → Stp F H F' H' → Q (.ref q) H'
def sp_Room_gather (K : PySem.W.Frag) (A : Ad) : Sp := fun vs H Q E => ∃ (r pa z : Addr) (m : PlM) (F : Addr → Prop) (S : Tb) (cs : List Int) (v : V), vs = [.ref r, v] ∧ RoomAt A H r pa z m F S cs ∧ Kind K H v ∧
  ((∀ i, v = .int i → i ∉ m.sizes) → E (.ref A.NoSize) none H) ∧ ∀ k : Nat, v = .int (k : Nat) → (k : Int) ∈ m.sizes →
  ∀ q H' F', RoomAt A H' r pa z m F' (gathS m S cs k) (gathG m S cs k).cs → TupP H' q (gathG m S cs k).mv → H q = none → ¬ F' q → Stp F H F' H' → Q (.ref q) H'
section
variable {P : Program} {w : World} {K : PySem.W.Frag} {mg : Str → Option Value} {base : Heap} {A : Ad}
theorem ok_gathered (T : Tx K mg A) : Df P w K mg base 6 "gathered" ["room", "size", "slots"] (sp_gathered K A) := by
  refine Dd.ok T.d_gathered sc_gathered bi_gathered (fun vs H Q E h => ?_) (fun f cdv Ar outer s H vs Q E hr h => ?_)
  · obtain ⟨r, pa, z, m, F, S, cs, k, rfl, _⟩ := h; rfl
  · obtain ⟨r, pa, z, m, F, S, cs, k, rfl, ⟨s, I, hb, rfl, rfl, rfl, rfl⟩, hk, kQ⟩ := h
    refine ⟨_, (pss_cons (ps_set (i := 3) sc_gathered.nd rfl (Or.inl rfl) (pe_df (ok_own_shelves T) hr (by decide) (by rfl) (pa_cons (pv 0) (pa_cons (pv 1) pa_nil))))
    (pss_cons (ps_set (i := 4) sc_gathered.nd rfl (Or.inr rfl) (pe_df (ok_staying T) hr (by decide) (by rfl) (pa_cons (pv 3) (pa_cons (pv 2) pa_nil))))
    (pss_cons (ps_setLc (i := 5) (own := [("shelf", 6)]) (g := gName 6) (tt := (tTest (tOp (rIn K true) (tFld K (tVar 6) "page") (tVar 4)))) (te := (tVar 6)) rfl sc_gathered.nd rfl rfl (sw_true rfl rfl rfl (by decide +kernel)) (pi_list (pv 3)) (blkOk_by (own := [("shelf", 6)]) (N := ["room", "size", "slots", "shelves", "pages", "leaving", "shelf", "moves", "slot"]) (sc := defScope s_gathered) (by decide +kernel)) (fun _ _ _ _ _ => pg_name (i := 6) sc_gathered.nd rfl (Or.inl rfl)) (fun _ _ _ _ _ => pts_one (pt_cmpR op_notIn_seq (pe_fld (pv 6) rfl) (pv 4) rfl)) (fun _ _ _ _ _ => (pv 6)))
    (pss_cons (ps_set (i := 7) sc_gathered.nd rfl (Or.inl rfl) (pe_lst pa_nil))
    (pss_cons (ps_for (passes_of rfl) rfl (pi_list (pv 5)) (pg_name (i := 6) sc_gathered.nd rfl (Or.inl rfl))
    (pss_one (ps_for (passes_of rfl) rfl (pi_range1 (by rfl) T.z_range (pa_cons (pv 2) pa_nil)) (pg_name (i := 8) sc_gathered.nd rfl (Or.inl rfl))
    (pss_one (ps_if (pt_val (pe_mf (ok_Shelf_is_out T) T.c_Shelf hr (by decide) (pv 6) (pa_cons (pv 8) pa_nil))) (pss_one (ps_expr (pe_bm PySem.F.plainAttrs_list PySem.F.slot_list_append PySem.F.type_list_append mt_append (pv 7) (pa_cons (pe_df (ok_moved T) hr (by decide) (by rfl) (pa_cons (pv 0) (pa_cons (pv 6) (pa_cons (pv 8) (pa_cons (pv 4) pa_nil))))) pa_nil))))
    pss_nil)))))
    (pss_cons (ps_for (passes_of rfl) rfl (pi_list (pv 5)) (pg_name (i := 6) sc_gathered.nd rfl (Or.inl rfl))
    (pss_one (ps_expr (pe_mf (ok_Room_give_page T) T.c_Room hr (by decide) (pv 0) (pa_cons (pe_fld (pv 6) rfl) pa_nil)))))
    (pss_one (ps_ret (pv 7))))))))), ?_⟩
    have mo := I.pl.ok
    have hz := mo.zr hk
    have h60 := mo.L60
    have hn40 := plen m mo
    have hk1 := per1 hz.1 hz.2
    have hk60 : m.L / k ≤ 60 := Nat.le_trans (Nat.div_le_self _ _) h60
    have olt := own_lt s.S m.n k
    have osome : ∀ i ∈ own s.S m.n k, (s.S i).isSome = true := fun i hi => by
      obtain ⟨_, x, hx, _⟩ := mem_own.mp hi
      rw [hx]; rfl
    -- shelves, pages
    refine ⟨_, rfl, _, rfl, pa, z, m, s, k, rfl, I, fun a1 H1 n1 e1 sm1 => ?_⟩
    have I1 := I.same sm1
    refine ⟨_, rfl, _, rfl, pa, z, m, s, a1, own s.S m.n k, m.L / k, rfl, I1, e1, osome, olt, hk1, hk60, fun a2 H2 n2 e2 sm2 => ?_⟩
    have I2 := I1.same sm2
    have e12 := sm2 _ _ e1
    have n20 : H a2 = none := by
      cases c : H a2 with
      | none => rfl
      | some o => rw [sm1 _ _ c] at n2; cases n2
    have estay : stayL s.S (own s.S m.n k) (m.L / k) = stayO m s.S k := rfl
    rw [estay] at e2
    -- leaving
    refine ⟨_, rfl, a1, rfl, ⟨_, SqL.of e12⟩, fun a3 n3 => ?_⟩
    have n30 : H a3 = none := by
      cases c : H a3 with
      | none => rfl
      | some o => rw [sm2 _ _ (sm1 _ _ c)] at n3; cases n3
    have rl : ∀ {l : List Nat}, (shRefs s l).length = l.length := List.length_map _
    have olen : (own s.S m.n k).length ≤ 40 := Nat.le_trans (own_len _ _ _) hn40
    refine lc_list (K := K) (a := a1) (xs := shRefs s (own s.S m.n k)) (fun i H' => Same H2 H' ∧ H' a3 = some (.lst (shRefs s (((own s.S m.n k).take i).filter fun i => decide (i ∉ stayO m s.S k))))) ⟨sm_n n3, upd_same⟩ (fun i H' _ h => SqL.of (h.1 _ _ e12)) ?_ ?_
    · rintro i x H' hx ⟨sm, e3⟩
      obtain ⟨q, hq, rfl⟩ := shRefs_at hx
      obtain ⟨y, hy⟩ := Option.isSome_iff_exists.mp (osome q (List.mem_of_getElem? hq))
      have Sy := (I2.same sm).sh hy
      have et := take_at hq
      refine ⟨rfl, ?_⟩
      refine ⟨_, rfl, Sy.fPage T ⟨_, rfl, a2, _, rfl, .inl (SqL.of (sm _ _ e2)), rfl, all_flat_nat _, _, rfl, ?_⟩⟩
      have ei : inV (V.int (shM q y).page) (nV (stayO m s.S k)) = decide (q ∈ stayO m s.S k) := inV_nat q _
      show if (!inV (V.int (shM q y).page) (nV (stayO m s.S k))) = true then _ else _
      rw [ei]
      refine iteND (fun h => ?_) (fun h => ?_)
      · refine ⟨_, rfl, _, e3, ?_, Same.up sm n3, ?_⟩
        · rw [rl]
          refine Nat.lt_of_le_of_lt (List.length_filter_le _ _) ?_
          rw [List.length_take]
          exact Nat.lt_of_le_of_lt (Nat.le_trans (Nat.min_le_right _ _) olen) (by decide)
        · rw [upd_same, et, List.filter_append]
          have : List.filter (fun i => decide (i ∉ stayO m s.S k)) [q] = [q] := by simp [List.filter, h]
          rw [this]
          unfold shRefs
          rw [List.map_append]; rfl
      · refine ⟨sm, ?_⟩
        rw [e3, et, List.filter_append]
        have : List.filter (fun i => decide (i ∉ stayO m s.S k)) [q] = [] := by simp [List.filter, h]
        rw [this, List.append_nil]
    rintro H3 ⟨sm3, e3⟩
    rw [rl, List.take_length] at e3
    have e3' : H3 a3 = some (.lst (shRefs s (leaveO m s.S k))) := e3
    have e23 := sm3 _ _ e2
    -- moves = []
    refine ⟨(by decide), fun a4 n4 => ?_⟩
    have sm03 : Same H H3 := fun b o e => sm3 _ _ (sm2 _ _ (sm1 _ _ e))
    have n40 : H a4 = none := by
      cases c : H a4 with
      | none => rfl
      | some o => rw [sm03 _ _ c] at n4; cases n4
    have n24 : a2 ≠ a4 := fun e => by rw [e, n4] at e23; cases e23
    have n34 : a3 ≠ a4 := fun e => by rw [e, n4] at e3'; cases e3'
    have nf2 := I.nofoot n20
    have nf3 := I.nofoot n30
    have nf4 := I.nofoot n40
    have npz : a4 ≠ pa ∧ a4 ≠ z := by
      obtain ⟨dxp, h1⟩ := I.pl.ob
      have h2 := I.pl.sz
      exact ⟨(fun e => by rw [e, h1] at n40; cases n40), (fun e => by rw [e, h2] at n40; cases n40)⟩
    have lmem : ∀ i ∈ leaveO m s.S k, i ∈ own s.S m.n k ∧ i ∉ stayO m s.S k := fun i hi => by
      have := List.mem_filter.mp hi
      exact ⟨this.1, of_decide_eq_true this.2⟩
    have llen : (leaveO m s.S k).length ≤ 40 := Nat.le_trans (List.length_filter_le _ _) olen
    have smem : ∀ i ∈ stayO m s.S k, i ∈ own s.S m.n k := fun i hi => (List.mem_filter.mp hi).1
    have mlen : ∀ i t j, j ≤ m.L / k → ((List.range j).foldl (mv1 m (stayO m s.S k) i) (((leaveO m s.S k).take t).foldl (mvP m (stayO m s.S k) (m.L / k)) ⟨s.S, s.cs, []⟩)).mv.length ≤ 2460 := fun i t j hj => by
      have h1 := mvF_len m (stayO m s.S k) i (List.range j) (((leaveO m s.S k).take t).foldl (mvP m (stayO m s.S k) (m.L / k)) ⟨s.S, s.cs, []⟩)
      have h2 := mvP_len m (stayO m s.S k) (m.L / k) ((leaveO m s.S k).take t) ⟨s.S, s.cs, []⟩
      rw [List.length_range] at h1
      have h3 : ((leaveO m s.S k).take t).length ≤ 40 := by rw [List.length_take]; omega
      have h4 : ((leaveO m s.S k).take t).length * (m.L / k) ≤ 40 * 60 := Nat.mul_le_mul h3 hk60
      have h5 : (⟨s.S, s.cs, []⟩ : Gs).mv.length = 0 := rfl
      omega
    have G0 : GI A H pa z m s a2 a3 a4 k s (upd H3 a4 (.lst [])) ⟨s.S, s.cs, []⟩ :=
      { I := (I.same sm03).same (sm_n n4), eS := rfl, eC := rfl, mv := TupL.nil upd_same, eA := rfl, eB := rfl, same := SameSh.refl _, sum := rfl, h3 := by rw [upd_ne n34]; exact e3', h2 := by rw [upd_ne n24]; exact e23,
        st := (Stp.same sm03).trans (Stp.same (sm_n n4)) }
    refine ⟨_, rfl, a3, rfl, ⟨_, SqL.of G0.h3⟩, for_list (K := K) (a := a3) (xs := shRefs s (leaveO m s.S k)) (fun t σ H' => ∃ (s1 : Hs) (v6 v8 : Option V), σ = [some (.ref (s.ad .rm)), some (.int (k : Nat)), some (.int (m.L / k : Nat)), some (.ref a1), some (.ref a2), some (.ref a3), v6, some (.ref a4), v8] ∧
      GI A H pa z m s a2 a3 a4 k s1 H' (((leaveO m s.S k).take t).foldl (mvP m (stayO m s.S k) (m.L / k)) ⟨s.S, s.cs, []⟩)) ⟨s, _, _, rfl, G0⟩ (fun t σ H' _ h => by obtain ⟨s1, v6, v8, _, g⟩ := h; exact SqL.of g.h3) ?_ ?_⟩
    · rintro t x σ H' hx ⟨s1, v6, v8, rfl, g⟩
      obtain ⟨i, hi, rfl⟩ := shRefs_at hx
      obtain ⟨hio, hin⟩ := lmem i (List.mem_of_getElem? hi)
      refine ⟨_, rfl, _, rfl, (by have h9 := hk60; generalize m.L / k = u at h9 ⊢; omega), (by have h9 := hk60; generalize m.L / k = u at h9 ⊢; omega), for_range (lo := 0) (n := _) (fun j σ H' => ∃ (s1 : Hs) (v8 : Option V), σ = [some (.ref (s.ad .rm)), some (.int (k : Nat)), some (.int (m.L / k : Nat)), some (.ref a1), some (.ref a2), some (.ref a3), some (.ref (s.ad (.p i))), some (.ref a4), v8] ∧
        GI A H pa z m s a2 a3 a4 k s1 H' ((List.range j).foldl (mv1 m (stayO m s.S k) i) (((leaveO m s.S k).take t).foldl (mvP m (stayO m s.S k) (m.L / k)) ⟨s.S, s.cs, []⟩))) ⟨s1, _, rfl, g⟩ ?_ ?_⟩
      · rintro j σ H5 hj ⟨s5, v8', rfl, g5⟩
        have hj2 : j < m.L / k := by
          have : ((m.L / k : Nat) : Int).toNat = m.L / k := Int.toNat_natCast _
          exact this ▸ hj
        have ml5 := mlen i t j (Nat.le_of_lt hj2)
        have efold : (List.range (j + 1)).foldl (mv1 m (stayO m s.S k) i) (((leaveO m s.S k).take t).foldl (mvP m (stayO m s.S k) (m.L / k)) ⟨s.S, s.cs, []⟩) = mv1 m (stayO m s.S k) i ((List.range j).foldl (mv1 m (stayO m s.S k) i) (((leaveO m s.S k).take t).foldl (mvP m (stayO m s.S k) (m.L / k)) ⟨s.S, s.cs, []⟩)) j := by rw [List.range_succ, foldl_snoc']
        rw [efold]
        generalize (List.range j).foldl (mv1 m (stayO m s.S k) i) (((leaveO m s.S k).take t).foldl (mvP m (stayO m s.S k) (m.L / k)) ⟨s.S, s.cs, []⟩) = G at g5 ml5 ⊢
        have get5 : ∀ q ∈ own s.S m.n k, ∃ y, s5.S q = some y ∧ y.z = k ∧ y.tk.length = m.L / k := fun q hq => by
          obtain ⟨_, y0, hy0, z0⟩ := mem_own.mp hq
          have h1 := g5.same.some_ q
          rw [hy0] at h1
          obtain ⟨y, hy⟩ := Option.isSome_iff_exists.mp h1
          have h2 := g5.same.z q
          rw [sfOf_at hy, sfOf_at hy0, z0] at h2
          have h3 := (g5.I.ok q y hy).2.2
          rw [h2] at h3
          exact ⟨y, hy, h2, h3⟩
        obtain ⟨x5, hx5, x5z, x5l⟩ := get5 i hio
        have Sx := g5.I.sh hx5
        rw [g5.eA] at Sx
        obtain ⟨dx, ho⟩ := Sx.ob
        refine ⟨_, rfl, _, dx, _, rfl, ho, shF_no_is_out _ _ _, _, rfl, _, _, _, _, rfl, Sx, _, rfl, ?_⟩
        have eo : isOut (shM i x5).tk (0 + (j : Int)) = x5.tk.getD j false := by rw [Int.zero_add, isOut_nat]; rfl
        show if isOut (shM i x5).tk (0 + (j : Int)) = true then _ else _
        rw [eo]
        have exG : sfOf G.S i = x5 := by rw [← g5.eS]; exact sfOf_at hx5
        refine iteB (fun h => ?_) (fun h => ?_)
        rotate_left
        · refine ⟨s5, some (.int (0 + (j : Int))), rfl, ?_⟩
          have e : mv1 m (stayO m s.S k) i G j = G := by unfold mv1; rw [exG, if_neg (by rw [h]; decide)]
          rw [e]; exact g5
        -- the goal
        have hjt : x5.tk[j]? = some true := by
          rw [List.getD_eq_getElem?_getD] at h
          cases e : x5.tk[j]? with
          | none => rw [e] at h; exact absurd h (by decide)
          | some b => rw [e] at h; have h2 : b = true := h; rw [h2]
        have hc1 : 1 ≤ cn s5.S i := by rw [cn_at hx5]; have := cnt_set_false hjt; omega
        obtain ⟨gp, hgp⟩ := free_ex (S0 := s.S) (S := s5.S) (k := m.L / k) olt hk1 (fun p hp => by obtain ⟨y, hy, _, hl⟩ := get5 p hp; rw [sfOf_at hy]; exact hl) g5.sum hio hin hc1
        have hgs := List.mem_of_find?_eq_some hgp
        have hgf := List.find?_some hgp
        have ngi : gp ≠ i := fun e => hin (by rw [← e]; exact hgs)
        obtain ⟨y, hy, yz, yl⟩ := get5 gp (smem gp hgs)
        have hyf : cnt y.tk < y.tk.length := by
          have h2 : hasFree s5.S gp = true := hgf
          unfold hasFree at h2
          rw [sfOf_at hy] at h2
          exact of_decide_eq_true h2
        obtain ⟨j2, hj2'⟩ := ff_ex hyf
        have eg : mv1 m (stayO m s.S k) i G j = ⟨mvS s5.S i j gp j2, cpy s5.cs (i * m.L + j * x5.z) (gp * m.L + j2 * x5.z) x5.z, G.mv ++ [(i * m.L + j * x5.z, gp * m.L + j2 * x5.z)]⟩ := by
          unfold mv1
          rw [exG, if_pos h, ← g5.eS, ← g5.eC]
          have e1 : (stayO m s.S k).find? (hasFree s5.S) = some gp := hgp
          rw [e1]
          show (⟨mvS s5.S i j gp ((ff (sfOf s5.S gp).tk).getD 0), cpy s5.cs (i * m.L + j * x5.z) (gp * m.L + ((ff (sfOf s5.S gp).tk).getD 0) * x5.z) x5.z, G.mv ++ [(i * m.L + j * x5.z, gp * m.L + ((ff (sfOf s5.S gp).tk).getD 0) * x5.z)]⟩ : Gs) = _
          rw [sfOf_at hy, hj2']; rfl
        have nf4' : ¬ foot s5 a4 := fun q => nf4 (g5.sub a4 q)
        have tup5 := g5.mv
        have e0 : V.int (0 + (j : Int)) = V.int ((j : Nat) : Int) := by rw [Int.zero_add]
        refine ⟨_, rfl, .inl ⟨rfl, ?_⟩, _, rfl, _, rfl, _, rfl, _, rfl, pa, z, m, s5, i, j, x5, y, a2, stayO m s.S k, gp, j2, (by rw [g5.eA, ← e0]; rfl), g5.I, hx5, hjt, g5.h2, ?_, hgp, ngi, hy, yz.trans x5z.symm, hj2', fun q s6 H6 J6 eS6 eC6 eA6 eB6 nq6 eq6 st6 => ?_⟩
        · obtain ⟨us, u1, _⟩ := tup5
          exact ⟨_, SqL.of u1⟩
        · intro p hp
          obtain ⟨u, hu, _⟩ := get5 p (smem p hp)
          rw [hu]; rfl
        have ss6 := mvS_same (j := j) (j2 := j2) hx5 hy ngi
        have sub6 : ∀ a, foot s6 a → foot s5 a := foot_sub eA6 fun q' hq' => by rw [eS6, ss6.some_ q'] at hq'; exact hq'
        have nf46 : ¬ foot s6 a4 := fun q' => nf4' (sub6 a4 q')
        have tup6 := tup5.stp g5.I nf4' st6
        obtain ⟨xs, b1, b2, b3⟩ := tup6.snoc (t := q) (r := pairV (i * m.L + j * x5.z, gp * m.L + j2 * x5.z)) eq6
        refine ⟨a4, xs, _, rfl, rfl, b1, ?_, s6, some (.int (0 + (j : Int))), rfl, ?_⟩
        · rw [b2, List.length_map]
          exact Nat.lt_of_le_of_lt ml5 (by decide)
        rw [eg]
        exact { I := J6.out nf46 npz.1 npz.2, eS := eS6, eC := eC6, mv := by show TupL _ a4 ((G.mv ++ [(i * m.L + j * x5.z, gp * m.L + j2 * x5.z)]).map pairV); rw [List.map_append]; exact b3, eA := eA6.trans g5.eA, eB := eB6.trans g5.eB, same := by rw [eS6]; exact g5.same.trans ss6,
                sum := by rw [eS6, mvS_sum hx5 hy ngi (nodup_lt olt) hio (smem gp hgs) hjt (ff_at hj2')]; exact g5.sum,
                h3 := by rw [upd_ne n34]; exact st6.1 _ _ g5.h3 (fun q' => nf3 (g5.sub a3 q')), h2 := by rw [upd_ne n24]; exact st6.1 _ _ g5.h2 (fun q' => nf2 (g5.sub a2 q')),
                st := ⟨fun b o e n => by rw [upd_ne (ne_of_none e n40)]; exact (g5.st.trans st6).1 b o e n, fun b q' => (g5.st.trans st6).2 b q'⟩ }
      · rintro σ H5 ⟨s5, v8', rfl, g5⟩
        refine ⟨s5, _, _, rfl, ?_⟩
        have ek : ((m.L / k : Nat) : Int).toNat = m.L / k := Int.toNat_natCast _
        rw [ek] at g5
        rw [take_at hi, foldl_snoc']
        exact g5
    · rintro σ H5 ⟨s5, v6, v8, rfl, g5⟩
      rw [rl, List.take_length] at g5
      have eG : (leaveO m s.S k).foldl (mvP m (stayO m s.S k) (m.L / k)) ⟨s.S, s.cs, []⟩ = gathG m s.S s.cs k := rfl
      rw [eG] at g5
      have hb5 : s5.bare.Perm (nones s5.S m.n) := by rw [g5.eB, nones_same g5.same]; exact hb
      -- the shelves that are left are given back
      have lnd : (leaveO m s.S k).Nodup := (nodup_lt olt).filter _
      refine ⟨_, rfl, a3, rfl, ⟨_, SqL.of g5.h3⟩, for_list (K := K) (a := a3) (xs := shRefs s (leaveO m s.S k)) (fun t σ H' => ∃ (s1 : Hs) (v6 : Option V), σ = [some (.ref (s.ad .rm)), some (.int (k : Nat)), some (.int (m.L / k : Nat)), some (.ref a1), some (.ref a2), some (.ref a3), v6, some (.ref a4), v8] ∧
        RmI A H' pa z m s1 ∧ s1.bare.Perm (nones s1.S m.n) ∧ s1.S = dropAll (gathG m s.S s.cs k).S ((leaveO m s.S k).take t) ∧ s1.cs = (gathG m s.S s.cs k).cs ∧ s1.ad = s.ad ∧ (∀ a, foot s1 a → foot s a) ∧ TupP H' a4 (gathG m s.S s.cs k).mv ∧ H' a3 = some (.lst (shRefs s (leaveO m s.S k))) ∧ Stp (foot s) H (foot s1) H')
        ⟨s5, _, rfl, g5.I, hb5, g5.eS, g5.eC, g5.eA, g5.sub, g5.mv, g5.h3, g5.st⟩ (fun t σ H' _ h => by obtain ⟨s1, v6, _, _, _, _, _, _, _, _, h3, _⟩ := h; exact SqL.of h3) ?_ ?_⟩
      · rintro t x σ H' hx ⟨s1, v6', rfl, J, hb1, eS1, eC1, eA1, sub1, tup1, h31, st1⟩
        obtain ⟨i, hi, rfl⟩ := shRefs_at hx
        obtain ⟨hio, hin⟩ := lmem i (List.mem_of_getElem? hi)
        have hnt : i ∉ (leaveO m s.S k).take t := fun h => by
          obtain ⟨i1, hi1⟩ := List.getElem?_eq_some_iff.mp hi
          obtain ⟨j, hj, e⟩ := List.getElem_of_mem h
          have hj2 : j < t := by rw [List.length_take] at hj; omega
          rw [List.getElem_take] at e
          exact absurd (e.trans hi1.symm) (List.pairwise_iff_getElem.mp (List.nodup_iff_pairwise_ne.mp lnd) j t (by omega) i1 hj2)
        have his : (s1.S i).isSome = true := by
          rw [eS1, dropAll_at, if_neg hnt, ← g5.eS, g5.same.some_ i]
          exact osome i hio
        obtain ⟨y, hy⟩ := Option.isSome_iff_exists.mp his
        have Sy := J.sh hy
        rw [eA1] at Sy
        have er : s.ad .rm = s1.ad .rm := by rw [eA1]
        rw [er]
        refine ⟨_, rfl, _, _, _, rfl, J.rm, rmF_no (by decide) _ _ _ _, _, rfl, Sy.fPage T ⟨pa, z, m, s1, i, rfl, J, hb1, his, fun s2 H2' J2 hb2 eS2 eC2 eA2 st2 => ?_⟩⟩
        have sub2 : ∀ a, foot s2 a → foot s1 a := foot_sub eA2 fun q hq => by
          rw [eS2] at hq
          by_cases e : q = i
          · rw [e, updT_same] at hq; cases hq
          · rw [updT_ne e] at hq; exact hq
        refine ⟨s2, _, rfl, J2, hb2, ?_, eC2.trans eC1, eA2.trans eA1, fun a h => sub1 a (sub2 a h), tup1.stp J (fun h => nf4 (sub1 a4 h)) st2, st2.1 _ _ h31 (fun h => nf3 (sub1 a3 h)), st1.trans st2⟩
        rw [eS2, eS1, take_at hi]
        unfold dropAll
        rw [foldl_snoc']
      · rintro σ H' ⟨s1, v6', rfl, J, hb1, eS1, eC1, eA1, sub1, tup1, h31, st1⟩
        rw [rl, List.take_length] at eS1
        exact ⟨_, rfl, kQ a4 H' (foot s1) ⟨s1, J, hb1, by rw [eA1], eS1, eC1, rfl⟩ tup1 n40 (fun h => nf4 (sub1 a4 h)) st1⟩
theorem ok_Room_gather (T : Tx K mg A) : Mf P w K mg base 7 A.Room "gather" ["self", "size"] (sp_Room_gather K A) := by
  refine Dm.ok T.d_Room_gather sc_Room_gather bi_Room_gather (fun vs H Q E h => ?_) (fun f cdv Ar outer s H vs Q E hr h => ?_)
  · obtain ⟨r, pa, z, m, F, S, cs, v, rfl, _⟩ := h; rfl
  · obtain ⟨r, pa, z, m, F, S, cs, v, rfl, ⟨s, I, hb, rfl, rfl, rfl, rfl⟩, kv, kN, kk⟩ := h
    refine ⟨_, (pss_one (ps_ret (pe_df (ok_gathered T) hr (by decide) (by rfl) (pa_cons (pv 0) (pa_cons (pv 1) (pa_cons (pe_mfS (ok_Plan_per T) T.c_Plan hr (by decide) (takes_of rfl rfl rfl rfl) (pe_fld (pv 0) rfl) (pa_cons (pv 1) pa_nil)) pa_nil)))))), ?_⟩
    obtain ⟨dxp, hpo⟩ := I.pl.ob
    refine ⟨_, rfl, _, rfl, _, rfl, I.fPlan T ⟨_, dxp, _, rfl, hpo, plF_no_per _ _, _, rfl, pa, z, m, v, rfl, I.pl, kv, kN, fun i hi hm => ?_⟩⟩
    obtain ⟨k, rfl⟩ := I.pl.ok.nat hm
    subst hi
    rw [per_cast I.pl.ok]
    exact ⟨_, pa, z, m, _, _, _, k, rfl, ⟨s, I, hb, rfl, rfl, rfl, rfl⟩, hm, kk k rfl hm⟩
end
end Sb
namespace Sb
open PySem PySem.Spec PyProof.Rows L2
/-! ### what is out, in plain Lean -/
def Has (S : Tb) (i j z : Nat) : Prop := ∃ x, S i = some x ∧ x.tk[j]? = some true ∧ x.z = z
theorem getD_true {l : List Bool} {j : Nat} : l.getD j false = true ↔ l[j]? = some true := by
  rw [List.getD_eq_getElem?_getD]
  cases e : l[j]? with
  | none => simp
  | some b => cases b <;> simp
theorem Has.lt {m : PlM} {S : Tb} {i j z : Nat} (h : Has S i j z) (ok : SOk m S) : i < m.n ∧ (z : Int) ∈ m.sizes ∧ j < m.L / z := by
  obtain ⟨x, hx, hj, rfl⟩ := h
  obtain ⟨a1, a2, a3⟩ := ok i x hx
  exact ⟨a1, a2, a3 ▸ (List.getElem?_eq_some_iff.mp hj).1⟩
theorem mem_things {m : PlM} {S : Tb} {p z : Nat} (ok : SOk m S) : (p, z) ∈ thingsOf m S ↔ ∃ i j, Has S i j z ∧ p = i * m.L + j * z := by
  unfold thingsOf thingsOn
  rw [List.mem_flatMap]
  constructor
  · rintro ⟨i, hi, h⟩
    obtain ⟨j, hj, e⟩ := List.mem_map.mp h
    obtain ⟨x, hx⟩ := Option.isSome_iff_exists.mp (mem_pgs.mp hi).2
    rw [sfOf_at hx] at e hj
    injection e with e1 e2
    have h3 := (List.mem_filter.mp hj).2
    exact ⟨i, j, ⟨x, hx, getD_true.mp h3, e2⟩, by rw [← e2]; exact e1.symm⟩
  · rintro ⟨i, j, ⟨x, hx, hj, rfl⟩, rfl⟩
    obtain ⟨a1, a2, a3⟩ := ok i x hx
    refine ⟨i, mem_pgs.mpr ⟨a1, by rw [hx]; rfl⟩, ?_⟩
    rw [sfOf_at hx]
    refine List.mem_map.mpr ⟨j, List.mem_filter.mpr ⟨List.mem_range.mpr (a3 ▸ (List.getElem?_eq_some_iff.mp hj).1), getD_true.mpr hj⟩, rfl⟩
theorem in_page {L j z : Nat} (hz : 1 ≤ z) (hj : j < L / z) : j * z + z ≤ L := by
  have h1 : (j + 1) * z ≤ (L / z) * z := Nat.mul_le_mul_right z hj
  have h2 : (L / z) * z ≤ L := Nat.div_mul_le_self L z
  rw [Nat.succ_mul] at h1
  omega
theorem page_of {L i j z : Nat} (hz : 1 ≤ z) (hj : j < L / z) : (i * L + j * z) / L = i ∧ (i * L + j * z) % L = j * z := by
  have h := in_page hz hj
  have hL : 0 < L := by omega
  have h1 : j * z < L := by omega
  constructor
  · rw [Nat.mul_comm, Nat.mul_add_div hL, Nat.div_eq_of_lt h1, Nat.add_zero]
  · rw [Nat.mul_comm i L, Nat.mul_add_mod, Nat.mod_eq_of_lt h1]
theorem things_lt {m : PlM} {S : Tb} (hm : m.Ok) (ok : SOk m S) : (thingsOf m S).Pairwise fun a b => a.1 < b.1 := by
  unfold thingsOf
  rw [List.pairwise_flatMap]
  constructor
  · intro i hi
    obtain ⟨x, hx⟩ := Option.isSome_iff_exists.mp (mem_pgs.mp hi).2
    obtain ⟨a1, a2, a3⟩ := ok i x hx
    have hz := hm.zr a2
    unfold thingsOn
    rw [sfOf_at hx]
    refine List.pairwise_map.mpr ((List.pairwise_lt_range.filter _).imp fun {a b} h => ?_)
    show i * m.L + a * x.z < i * m.L + b * x.z
    have : (a + 1) * x.z ≤ b * x.z := Nat.mul_le_mul_right _ h
    rw [Nat.succ_mul] at this
    omega
  · refine (pgs_lt S m.n).imp_of_mem fun {a b} ha hb h x hx y hy => ?_
    obtain ⟨xa, hxa⟩ := Option.isSome_iff_exists.mp (mem_pgs.mp ha).2
    obtain ⟨a1, a2, a3⟩ := ok a xa hxa
    have hz := hm.zr a2
    unfold thingsOn at hx hy
    rw [sfOf_at hxa] at hx
    obtain ⟨j, hj, rfl⟩ := List.mem_map.mp hx
    obtain ⟨j', hj', rfl⟩ := List.mem_map.mp hy
    have hj2 := List.mem_range.mp (List.mem_filter.mp hj).1
    have := in_page hz.1 hj2
    show a * m.L + j * xa.z < b * m.L + j' * (sfOf S b).z
    have h3 : (a + 1) * m.L ≤ b * m.L := Nat.mul_le_mul_right _ h
    rw [Nat.succ_mul] at h3
    have h4 : 0 ≤ j' * (sfOf S b).z := Nat.zero_le _
    omega
theorem things_nd {m : PlM} {S : Tb} (hm : m.Ok) (ok : SOk m S) : (thingsOf m S).Nodup := (things_lt hm ok).imp fun {a b} h e => by rw [e] at h; exact Nat.lt_irrefl _ h
/-- one place is one slot -/
theorem place_inj {m : PlM} {S : Tb} (hm : m.Ok) (ok : SOk m S) {i j z i' j' z' : Nat} (h : Has S i j z) (h' : Has S i' j' z') (e : i * m.L + j * z = i' * m.L + j' * z') : i = i' ∧ j = j' ∧ z = z' := by
  obtain ⟨_, a2, a3⟩ := h.lt ok
  obtain ⟨_, b2, b3⟩ := h'.lt ok
  have p1 := page_of (i := i) (hm.zr a2).1 a3
  have p2 := page_of (i := i') (hm.zr b2).1 b3
  rw [e] at p1
  have ei : i = i' := by rw [← p1.1, p2.1]
  subst ei
  obtain ⟨x, hx, _, hxz⟩ := h
  obtain ⟨y, hy, _, hyz⟩ := h'
  rw [hx] at hy
  obtain rfl := Option.some.inj hy
  subst hxz hyz
  have hm1 : j * x.z = j' * x.z := by rw [← p1.2, p2.2]
  exact ⟨rfl, Nat.eq_of_mul_eq_mul_right (hm.zr a2).1 hm1, rfl⟩
theorem locate_has {m : PlM} {S : Tb} (hm : m.Ok) (ok : SOk m S) {i j z : Nat} (h : Has S i j z) : locate m S ((i * m.L + j * z : Nat) : Int) = some (i, j) := by
  obtain ⟨_, a2, a3⟩ := h.lt ok
  have hz := (hm.zr a2).1
  obtain ⟨p1, p2⟩ := page_of (i := i) hz a3
  obtain ⟨x, hx, hj, rfl⟩ := h
  unfold locate
  rw [if_neg (by omega), Int.toNat_natCast, p1, hx]
  dsimp only
  rw [p2, Nat.mul_mod_left, Nat.mul_div_cancel _ hz, if_pos ⟨rfl, getD_true.mpr hj⟩]
theorem locate_things {m : PlM} {S : Tb} (hm : m.Ok) (ok : SOk m S) {p z : Nat} (h : (p, z) ∈ thingsOf m S) : ∃ i j, locate m S (p : Int) = some (i, j) ∧ Has S i j z ∧ p = i * m.L + j * z := by
  obtain ⟨i, j, h1, rfl⟩ := (mem_things ok).mp h
  exact ⟨i, j, locate_has hm ok h1, h1, rfl⟩
theorem things_locate {m : PlM} {S : Tb} (hm : m.Ok) (ok : SOk m S) {p : Int} {i j : Nat} (h : locate m S p = some (i, j)) : ∃ q : Nat, p = q ∧ (q, (sfOf S i).z) ∈ thingsOf m S ∧ q = i * m.L + j * (sfOf S i).z := by
  obtain ⟨x, hx, hj, _, hp, _⟩ := locate_lt ok hm.L1 h
  rw [sfOf_at hx]
  exact ⟨_, hp, (mem_things ok).mpr ⟨i, j, ⟨x, hx, hj, rfl⟩, rfl⟩, rfl⟩
theorem Has.sf {S : Tb} {i j z : Nat} (h : Has S i j z) : (sfOf S i).z = z := by
  obtain ⟨x, hx, _, rfl⟩ := h
  rw [sfOf_at hx]
theorem cnt0_not {l : List Bool} {j : Nat} (h : cnt l = 0) : l[j]? ≠ some true := fun e => by
  have := cnt_set_false e
  omega
theorem isEmp_not {S : Tb} {i j z : Nat} (h : isEmp S i = true) : ¬ Has S i j z := by
  rintro ⟨x, hx, hj, _⟩
  rw [isEmp_at hx] at h
  exact cnt0_not (of_decide_eq_true h) hj
theorem shelfFor_has {S S1 : Tb} {n k l i : Nat} (h : shelfFor S n k l = some (i, S1)) (i' j' z' : Nat) : Has S1 i' j' z' ↔ Has S i' j' z' := by
  unfold shelfFor at h
  split at h
  · cases h; exact Iff.rfl
  · split at h
    · cases h
    · rename_i i0 S0 e
      cases h
      have key : S0 = S ∧ S i = none ∨ S0 = updT S i none ∧ isEmp S i = true := by
        unfold fresh at e
        split at e
        · rename_i i' r e'
          cases e
          have := mem_nones.mp (by rw [e']; exact List.mem_cons_self : i ∈ nones S n)
          exact .inl ⟨rfl, Option.isNone_iff_eq_none.mp this.2⟩
        · split at e
          · rename_i i' r e'
            cases e
            have := mem_emps.mp (by rw [e']; exact List.mem_cons_self : i ∈ emps S n)
            exact .inr ⟨rfl, this.2⟩
          · cases e
      by_cases q : i' = i
      · subst q
        have n1 : ¬ Has (updT S0 i' (some ⟨k, List.replicate l false⟩)) i' j' z' := by
          rintro ⟨x, hx, hj, _⟩
          rw [updT_same] at hx
          obtain rfl := Option.some.inj hx
          have hj' : (List.replicate l false)[j']? = some true := hj
          rw [List.getElem?_replicate] at hj'
          split at hj' <;> cases hj'
        have n2 : ¬ Has S i' j' z' := by
          rcases key with ⟨_, h0⟩ | ⟨_, h0⟩
          · rintro ⟨x, hx, _⟩
            rw [h0] at hx; cases hx
          · exact isEmp_not h0
        exact ⟨fun h => absurd h n1, fun h => absurd h n2⟩
      · unfold Has
        rw [updT_ne q]
        rcases key with ⟨rfl, _⟩ | ⟨rfl, _⟩
        · exact Iff.rfl
        · rw [updT_ne q]
theorem has_set {S : Tb} {i j : Nat} {x : Sf} {b : Bool} (hx : S i = some x) (hj : j < x.tk.length) (i' j' z' : Nat) : Has (updT S i (some ⟨x.z, x.tk.set j b⟩)) i' j' z' ↔ (if i' = i ∧ j' = j then b = true ∧ z' = x.z else Has S i' j' z') := by
  by_cases q : i' = i
  · subst q
    have e : Has (updT S i' (some ⟨x.z, x.tk.set j b⟩)) i' j' z' ↔ (x.tk.set j b)[j']? = some true ∧ x.z = z' := by
      constructor
      · rintro ⟨y, hy, h1, h2⟩
        rw [updT_same] at hy
        obtain rfl := Option.some.inj hy
        exact ⟨h1, h2⟩
      · rintro ⟨h1, h2⟩
        exact ⟨_, updT_same, h1, h2⟩
    have e2 : Has S i' j' z' ↔ x.tk[j']? = some true ∧ x.z = z' := by
      constructor
      · rintro ⟨y, hy, h1, h2⟩
        rw [hx] at hy
        obtain rfl := Option.some.inj hy
        exact ⟨h1, h2⟩
      · rintro ⟨h1, h2⟩
        exact ⟨x, hx, h1, h2⟩
    rw [e]
    by_cases q2 : j' = j
    · subst q2
      rw [if_pos ⟨rfl, rfl⟩, List.getElem?_set_self hj]
      constructor
      · rintro ⟨h1, h2⟩; exact ⟨Option.some.inj h1, h2.symm⟩
      · rintro ⟨h1, h2⟩; exact ⟨by rw [h1], h2.symm⟩
    · rw [if_neg (fun h => q2 h.2), List.getElem?_set_ne (fun h => q2 h.symm), e2]
  · rw [if_neg (fun h => q h.1)]
    unfold Has
    rw [updT_ne q]
/-- what a wish does -/
theorem wishT_ok {m : PlM} {S S' : Tb} {k i j : Nat} (h1 : 1 ≤ k) (h2 : k ≤ m.L) (h : wishT m S k = some (i, j, S')) : (∀ i' j' z', Has S' i' j' z' ↔ (if i' = i ∧ j' = j then z' = k else Has S i' j' z')) ∧ ¬ (∃ z', Has S i j z') := by
  unfold wishT at h
  split at h
  · cases h
  · rename_i i0 S1 e
    obtain ⟨x, hx, xz, xc⟩ := shelfFor_ok (per1 h1 h2) e
    rw [sfOf_at hx] at h
    split at h
    · cases h
    · rename_i j0 ej
      cases h
      have hj := ff_lt ej
      refine ⟨fun i' j' z' => ?_, ?_⟩
      · rw [← xz, has_set hx hj]
        by_cases q : i' = i ∧ j' = j
        · rw [if_pos q, if_pos q]; simp
        · rw [if_neg q, if_neg q]
          exact shelfFor_has e i' j' z'
      · rintro ⟨z', h3⟩
        obtain ⟨y, hy, hyj, _⟩ := (shelfFor_has e i j z').mpr h3
        rw [hx] at hy
        obtain rfl := Option.some.inj hy
        rw [ff_at ej] at hyj
        cases hyj
theorem wish_things {m : PlM} {S S' : Tb} {k i j : Nat} (hm : m.Ok) (ok : SOk m S) (ok' : SOk m S') (h1 : 1 ≤ k) (h2 : k ≤ m.L) (h : wishT m S k = some (i, j, S')) : (thingsOf m S').Perm ((i * m.L + j * k, k) :: thingsOf m S) := by
  obtain ⟨a1, a2⟩ := wishT_ok h1 h2 h
  have hn : (i * m.L + j * k, k) ∉ thingsOf m S := fun hmem => by
    obtain ⟨i', j', h3, e⟩ := (mem_things ok).mp hmem
    have hS' : Has S' i j k := (a1 i j k).mpr (by rw [if_pos ⟨rfl, rfl⟩])
    by_cases q : i' = i ∧ j' = j
    · obtain ⟨rfl, rfl⟩ := q
      exact a2 ⟨_, h3⟩
    · have h4 : Has S' i' j' k := (a1 i' j' k).mpr (by rw [if_neg q]; exact h3)
      obtain ⟨q1, q2, _⟩ := place_inj hm ok' hS' h4 e
      exact q ⟨q1.symm, q2.symm⟩
  refine (List.perm_ext_iff_of_nodup (things_nd hm ok') (List.nodup_cons.mpr ⟨hn, things_nd hm ok⟩)).mpr ?_
  rintro ⟨p, z⟩
  rw [mem_things ok', List.mem_cons, mem_things ok]
  constructor
  · rintro ⟨i', j', h3, rfl⟩
    rw [a1] at h3
    by_cases q : i' = i ∧ j' = j
    · rw [if_pos q] at h3
      obtain ⟨rfl, rfl⟩ := q
      subst h3
      exact .inl rfl
    · rw [if_neg q] at h3
      exact .inr ⟨i', j', h3, rfl⟩
  · rintro (e | ⟨i', j', h3, rfl⟩)
    · injection e with e1 e2
      subst e1 e2
      exact ⟨i, j, (a1 i j _).mpr (by rw [if_pos ⟨rfl, rfl⟩]), rfl⟩
    · refine ⟨i', j', (a1 i' j' z).mpr ?_, rfl⟩
      by_cases q : i' = i ∧ j' = j
      · obtain ⟨rfl, rfl⟩ := q
        exact absurd ⟨_, h3⟩ a2
      · rw [if_neg q]; exact h3
/-- what a giving back does -/
theorem giveT_has {m : PlM} {S : Tb} {i j z : Nat} (h : Has S i j z) (i' j' z' : Nat) : Has (giveT m S i j) i' j' z' ↔ Has S i' j' z' ∧ ¬ (i' = i ∧ j' = j) := by
  obtain ⟨x, hx, hj, rfl⟩ := h
  have hjl := (List.getElem?_eq_some_iff.mp hj).1
  have e1 : ∀ i' j' z', Has (giveS S i j) i' j' z' ↔ Has S i' j' z' ∧ ¬ (i' = i ∧ j' = j) := fun i' j' z' => by
    unfold giveS
    rw [sfOf_at hx, has_set hx hjl]
    by_cases q : i' = i ∧ j' = j
    · rw [if_pos q]; simp [q]
    · rw [if_neg q]; simp [q]
  unfold giveT
  split
  · rename_i hc
    rw [← e1]
    by_cases q : i' = i
    · subst q
      have n1 : ¬ Has (updT (giveS S i' j) i' none) i' j' z' := by
        rintro ⟨y, hy, _⟩
        rw [updT_same] at hy; cases hy
      have n2 : ¬ Has (giveS S i' j) i' j' z' := by
        rintro ⟨y, hy, hyj, _⟩
        rw [sfOf_at hy] at hc
        exact cnt0_not hc.1 hyj
      exact ⟨fun h => absurd h n1, fun h => absurd h n2⟩
    · unfold Has
      rw [updT_ne q]
  · exact e1 i' j' z'
theorem give_things {m : PlM} {S : Tb} {i j z : Nat} (hm : m.Ok) (ok : SOk m S) (ok' : SOk m (giveT m S i j)) (h : Has S i j z) : (thingsOf m S).Perm ((i * m.L + j * z, z) :: thingsOf m (giveT m S i j)) := by
  have hn : (i * m.L + j * z, z) ∉ thingsOf m (giveT m S i j) := fun hmem => by
    obtain ⟨i', j', h3, e⟩ := (mem_things ok').mp hmem
    obtain ⟨h4, h5⟩ := (giveT_has h i' j' z).mp h3
    obtain ⟨q1, q2, _⟩ := place_inj hm ok h h4 e
    exact h5 ⟨q1.symm, q2.symm⟩
  refine (List.perm_ext_iff_of_nodup (things_nd hm ok) (List.nodup_cons.mpr ⟨hn, things_nd hm ok'⟩)).mpr ?_
  rintro ⟨p, w⟩
  rw [mem_things ok, List.mem_cons, mem_things ok']
  constructor
  · rintro ⟨i', j', h3, rfl⟩
    by_cases q : i' = i ∧ j' = j
    · obtain ⟨rfl, rfl⟩ := q
      left
      rw [← h3.sf, ← h.sf]
    · exact .inr ⟨i', j', (giveT_has h i' j' w).mpr ⟨h3, q⟩, rfl⟩
  · rintro (e | ⟨i', j', h3, rfl⟩)
    · injection e with e1 e2
      subst e1 e2
      exact ⟨i, j, h, rfl⟩
    · exact ⟨i', j', ((giveT_has h i' j' w).mp h3).1, rfl⟩
/-- dropping what is empty changes nothing that is out -/
theorem drop_has {S : Tb} {l : List Nat} (h : ∀ i ∈ l, ∀ j z, ¬ Has S i j z) (i' j' z' : Nat) : Has (dropAll S l) i' j' z' ↔ Has S i' j' z' := by
  by_cases q : i' ∈ l
  · have n1 : ¬ Has (dropAll S l) i' j' z' := by
      rintro ⟨y, hy, _⟩
      rw [dropAll_at, if_pos q] at hy; cases hy
    exact ⟨fun h => absurd h n1, fun h' => absurd h' (h i' q j' z')⟩
  · unfold Has
    rw [dropAll_at, if_neg q]
theorem drop_ok {m : PlM} {S : Tb} {l : List Nat} (ok : SOk m S) : SOk m (dropAll S l) := fun i x hx => by
  rw [dropAll_at] at hx
  split at hx
  · cases hx
  · exact ok i x hx
theorem things_congr {m : PlM} {S S' : Tb} (hm : m.Ok) (ok : SOk m S) (ok' : SOk m S') (h : ∀ i j z, Has S' i j z ↔ Has S i j z) : thingsOf m S' = thingsOf m S := by
  refine eq_srt (R := fun a b => a.1 < b.1) (fun a b h1 h2 => absurd h1 (Nat.lt_asymm h2)) (things_lt hm ok') (things_lt hm ok) ((List.perm_ext_iff_of_nodup (things_nd hm ok') (things_nd hm ok)).mpr ?_)
  rintro ⟨p, z⟩
  rw [mem_things ok', mem_things ok]
  exact ⟨fun ⟨i, j, h1, h2⟩ => ⟨i, j, (h i j z).mp h1, h2⟩, fun ⟨i, j, h1, h2⟩ => ⟨i, j, (h i j z).mpr h1, h2⟩⟩
theorem trim_things {m : PlM} {S : Tb} (hm : m.Ok) (ok : SOk m S) : thingsOf m (trimT S m.n) = thingsOf m S :=
  things_congr hm ok (drop_ok ok) fun i j z => drop_has (fun i hi j z => isEmp_not (mem_emps.mp hi).2) i j z
end Sb
namespace Sb
open PySem PySem.Spec PyProof.Rows L2
theorem SameSh.ok {m : PlM} {S0 S : Tb} (h : SameSh S0 S) (ok : SOk m S0) : SOk m S := fun i x hx => by
  have h1 := h.some_ i
  rw [hx] at h1
  obtain ⟨y, hy⟩ := Option.isSome_iff_exists.mp h1.symm
  have h2 := h.z i
  have h3 := h.len i
  rw [sfOf_at hx, sfOf_at hy] at h2 h3
  rw [h2, h3]
  exact ok i y hy
theorem SameSh.get {m : PlM} {S0 S : Tb} {i : Nat} {x : Sf} (h : SameSh S0 S) (hx : S0 i = some x) : ∃ y, S i = some y ∧ y.z = x.z ∧ y.tk.length = x.tk.length := by
  have h1 := h.some_ i
  rw [hx] at h1
  obtain ⟨y, hy⟩ := Option.isSome_iff_exists.mp h1
  have h2 := h.z i
  have h3 := h.len i
  rw [sfOf_at hx, sfOf_at hy] at h2 h3
  exact ⟨y, hy, h2, h3⟩
/-- one move, or none -/
structure Mv (m : PlM) (S0 : Tb) (k i j g j2 : Nat) (G : Gs) : Prop where
  gs : g ∈ stayO m S0 k
  ne : g ≠ i
  hf : (stayO m S0 k).find? (hasFree G.S) = some g
  has : Has G.S i j k
  fr : ∃ y, G.S g = some y ∧ y.z = k ∧ ff y.tk = some j2
def mvG (m : PlM) (k i j g j2 : Nat) (G : Gs) : Gs := ⟨mvS G.S i j g j2, cpy G.cs (i * m.L + j * k) (g * m.L + j2 * k) k, G.mv ++ [(i * m.L + j * k, g * m.L + j2 * k)]⟩
structure GP (m : PlM) (S0 : Tb) (k : Nat) (G : Gs) : Prop where
  same : SameSh S0 G.S
  sum : sumC G.S (own S0 m.n k) = sumC S0 (own S0 m.n k)
theorem mem_leave {m : PlM} {S : Tb} {k i : Nat} : i ∈ leaveO m S k ↔ i ∈ own S m.n k ∧ i ∉ stayO m S k := by unfold leaveO; rw [List.mem_filter, decide_eq_true_eq]
theorem stay_own {m : PlM} {S : Tb} {k i : Nat} (h : i ∈ stayO m S k) : i ∈ own S m.n k := (List.mem_filter.mp h).1
theorem own_get {m : PlM} {S0 S : Tb} {k q : Nat} (ok : SOk m S0) (h : SameSh S0 S) (hq : q ∈ own S0 m.n k) : ∃ y, S q = some y ∧ y.z = k ∧ y.tk.length = m.L / k := by
  obtain ⟨_, x, hx, rfl⟩ := mem_own.mp hq
  obtain ⟨y, hy, h1, h2⟩ := h.get (m := m) hx
  exact ⟨y, hy, h1, by rw [h2]; exact (ok q x hx).2.2⟩
theorem mv1_cases {m : PlM} {S0 : Tb} {k i j : Nat} {G : Gs} (hm : m.Ok) (ok : SOk m S0) (hk : (k : Int) ∈ m.sizes) (gp : GP m S0 k G) (hi : i ∈ leaveO m S0 k) :
    (mv1 m (stayO m S0 k) i G j = G ∧ ¬ Has G.S i j k) ∨ ∃ g j2, Mv m S0 k i j g j2 G ∧ mv1 m (stayO m S0 k) i G j = mvG m k i j g j2 G ∧ GP m S0 k (mvG m k i j g j2 G) := by
  obtain ⟨hio, hin⟩ := mem_leave.mp hi
  obtain ⟨x, hx, xz, xl⟩ := own_get ok gp.same hio
  have hz := hm.zr hk
  have olt := own_lt S0 m.n k
  have exG := sfOf_at hx
  by_cases h : x.tk.getD j false = true
  · right
    have hj := getD_true.mp h
    have hc1 : 1 ≤ cn G.S i := by rw [cn_at hx]; have := cnt_set_false hj; omega
    obtain ⟨g, hg⟩ := free_ex (S0 := S0) (S := G.S) (k := m.L / k) olt (per1 hz.1 hz.2) (fun p hp => by obtain ⟨y, hy, _, hl⟩ := own_get ok gp.same hp; rw [sfOf_at hy]; exact hl) gp.sum hio hin hc1
    have hgs := List.mem_of_find?_eq_some hg
    have ngi : g ≠ i := fun e => hin (by rw [← e]; exact hgs)
    obtain ⟨y, hy, yz, yl⟩ := own_get ok gp.same (stay_own hgs)
    have hyf : cnt y.tk < y.tk.length := by
      have h2 : hasFree G.S g = true := List.find?_some hg
      unfold hasFree at h2
      rw [sfOf_at hy] at h2
      exact of_decide_eq_true h2
    obtain ⟨j2, hj2⟩ := ff_ex hyf
    refine ⟨g, j2, ⟨hgs, ngi, hg, ⟨x, hx, hj, xz⟩, y, hy, yz, hj2⟩, ?_, ?_⟩
    · unfold mv1 mvG
      rw [exG, if_pos h, xz]
      have e1 : (stayO m S0 k).find? (hasFree G.S) = some g := hg
      rw [e1]
      show (⟨mvS G.S i j g ((ff (sfOf G.S g).tk).getD 0), cpy G.cs (i * m.L + j * k) (g * m.L + ((ff (sfOf G.S g).tk).getD 0) * k) k, G.mv ++ [(i * m.L + j * k, g * m.L + ((ff (sfOf G.S g).tk).getD 0) * k)]⟩ : Gs) = _
      rw [sfOf_at hy, hj2]; rfl
    · exact ⟨gp.same.trans (mvS_same hx hy ngi), (mvS_sum hx hy ngi (nodup_lt olt) hio (stay_own hgs) hj (ff_at hj2)).trans gp.sum⟩
  · left
    refine ⟨by unfold mv1; rw [exG, if_neg h], ?_⟩
    rintro ⟨y, hy, hyj, _⟩
    rw [hx] at hy
    obtain rfl := Option.some.inj hy
    exact h (getD_true.mpr hyj)
/-- by steps of the gathering -/
theorem gath_ind {m : PlM} {S : Tb} {cs : List Int} {k : Nat} (Pr : Nat → Nat → Gs → Prop) (h0 : Pr 0 0 ⟨S, cs, []⟩)
    (hs : ∀ t i j G, (leaveO m S k)[t]? = some i → j < m.L / k → Pr t j G → Pr t (j + 1) (mv1 m (stayO m S k) i G j)) (hn : ∀ t G, t < (leaveO m S k).length → Pr t (m.L / k) G → Pr (t + 1) 0 G) :
    Pr (leaveO m S k).length 0 (gathG m S cs k) := by
  have inner : ∀ t i G, (leaveO m S k)[t]? = some i → Pr t 0 G → ∀ j, j ≤ m.L / k → Pr t j ((List.range j).foldl (mv1 m (stayO m S k) i) G) := fun t i G ht hp j => by
    induction j with
    | zero => intro _; exact hp
    | succ j ih =>
      intro hj
      rw [List.range_succ, foldl_snoc']
      exact hs t i j _ ht hj (ih (by omega))
  have outer : ∀ t, t ≤ (leaveO m S k).length → Pr t 0 (((leaveO m S k).take t).foldl (mvP m (stayO m S k) (m.L / k)) ⟨S, cs, []⟩) := fun t => by
    induction t with
    | zero => intro _; exact h0
    | succ t ih =>
      intro ht
      obtain ⟨i, hi⟩ : ∃ i, (leaveO m S k)[t]? = some i := ⟨_, List.getElem?_eq_getElem ht⟩
      rw [take_at hi, foldl_snoc']
      refine hn t _ ht ?_
      unfold mvP
      exact inner t i _ hi (ih (by omega)) _ (Nat.le_refl _)
  have := outer _ (Nat.le_refl _)
  rw [List.take_length] at this
  exact this
/-- the same, with what stays true told at each step -/
theorem gath_ind2 {m : PlM} {S : Tb} {cs : List Int} {k : Nat} (hm : m.Ok) (ok : SOk m S) (hk : (k : Int) ∈ m.sizes) (Pr : Nat → Nat → Gs → Prop) (h0 : Pr 0 0 ⟨S, cs, []⟩)
    (h1 : ∀ t i j G, (leaveO m S k)[t]? = some i → j < m.L / k → GP m S k G → Pr t j G → ¬ Has G.S i j k → Pr t (j + 1) G)
    (h2 : ∀ t i j g j2 G, (leaveO m S k)[t]? = some i → j < m.L / k → GP m S k G → Pr t j G → Mv m S k i j g j2 G → GP m S k (mvG m k i j g j2 G) → Pr t (j + 1) (mvG m k i j g j2 G))
    (hn : ∀ t G, t < (leaveO m S k).length → GP m S k G → Pr t (m.L / k) G → Pr (t + 1) 0 G) : Pr (leaveO m S k).length 0 (gathG m S cs k) ∧ GP m S k (gathG m S cs k) := by
  refine gath_ind (fun t j G => Pr t j G ∧ GP m S k G) ⟨h0, SameSh.refl _, rfl⟩ (fun t i j G ht hj ⟨hp, gp⟩ => ?_) fun t G ht ⟨hp, gp⟩ => ⟨hn t G ht gp hp, gp⟩
  rcases mv1_cases (j := j) hm ok hk gp (List.mem_of_getElem? ht) with ⟨e, hnot⟩ | ⟨g, j2, mv, e, gp'⟩
  · rw [e]; exact ⟨h1 t i j G ht hj gp hp hnot, gp⟩
  · rw [e]; exact ⟨h2 t i j g j2 G ht hj gp hp mv gp', gp'⟩
/-- what one move does to what is out -/
theorem mvS_has {m : PlM} {S0 : Tb} {k i j g j2 : Nat} {G : Gs} (mv : Mv m S0 k i j g j2 G) (i' j' z' : Nat) : Has (mvS G.S i j g j2) i' j' z' ↔ (if i' = g ∧ j' = j2 then z' = k else Has G.S i' j' z' ∧ ¬ (i' = i ∧ j' = j)) := by
  obtain ⟨x, hx, hj, xz⟩ := mv.has
  obtain ⟨y, hy, yz, hj2⟩ := mv.fr
  have ngi := mv.ne
  unfold mvS
  rw [sfOf_at hx, sfOf_at hy]
  have hx1 : updT G.S g (some ⟨y.z, y.tk.set j2 true⟩) i = some x := by rw [updT_ne ngi.symm, hx]
  rw [has_set hx1 (List.getElem?_eq_some_iff.mp hj).1, has_set hy (ff_lt hj2)]
  by_cases q : i' = i ∧ j' = j
  · rw [if_pos q, if_neg (fun z => ngi (z.1.symm.trans q.1))]
    simp [q]
  · rw [if_neg q]
    by_cases q2 : i' = g ∧ j' = j2
    · rw [if_pos q2, if_pos q2, yz]; simp
    · rw [if_neg q2, if_neg q2]; simp [q]
/-- the law's list, by a move -/
def outSet (k : Nat) (out : List (Nat × Nat)) (pq : Nat × Nat) : List (Nat × Nat) := out.set (out.idxOf (pq.1, k)) (pq.2, k)
def MvOk (k : Nat) : List (Nat × Nat) → List (Nat × Nat) → Prop
  | _, [] => True
  | out, pq :: r => (pq.1, k) ∈ out ∧ MvOk k (outSet k out pq) r
theorem mvOk_snoc {k : Nat} {pq : Nat × Nat} : ∀ {mv out : List (Nat × Nat)}, MvOk k out (mv ++ [pq]) ↔ MvOk k out mv ∧ (pq.1, k) ∈ mv.foldl (outSet k) out
  | [], out => by simp [MvOk]
  | a :: r, out => by
    show (a.1, k) ∈ out ∧ MvOk k (outSet k out a) (r ++ [pq]) ↔ ((a.1, k) ∈ out ∧ MvOk k (outSet k out a) r) ∧ _
    rw [mvOk_snoc (mv := r), and_assoc]
    rfl
theorem perm_set {α : Type} [BEq α] [LawfulBEq α] {a b : α} : ∀ {l : List α}, a ∈ l → (a :: l.set (l.idxOf a) b).Perm (b :: l)
  | c :: l, h => by
    rcases Classical.em (c = a) with e | e
    · subst e
      rw [List.idxOf_cons_self]
      exact List.Perm.swap _ _ _
    · have hm : a ∈ l := by
        rcases List.mem_cons.mp h with h | h
        · exact absurd h.symm e
        · exact h
      have ei : (c :: l).idxOf a = l.idxOf a + 1 := by
        have : (c == a) = false := by simpa using e
        simp [List.idxOf_cons, this]
      rw [ei, List.set_cons_succ]
      exact (List.Perm.swap _ _ _).trans (((perm_set hm).cons c).trans (List.Perm.swap _ _ _))
theorem outSet_perm {k : Nat} {out : List (Nat × Nat)} {pq : Nat × Nat} (h : (pq.1, k) ∈ out) : ((pq.1, k) :: outSet k out pq).Perm ((pq.2, k) :: out) := perm_set h
theorem outSet_len (k : Nat) (out : List (Nat × Nat)) (pq : Nat × Nat) : (outSet k out pq).length = out.length := List.length_set ..
theorem mv_things {m : PlM} {S0 : Tb} {k i j g j2 : Nat} {G : Gs} (hm : m.Ok) (ok : SOk m S0) (gp : GP m S0 k G) (gp' : GP m S0 k (mvG m k i j g j2 G)) (mv : Mv m S0 k i j g j2 G) :
    ((i * m.L + j * k, k) :: thingsOf m (mvG m k i j g j2 G).S).Perm ((g * m.L + j2 * k, k) :: thingsOf m G.S) := by
  have ok1 := gp.same.ok ok
  have ok2 := gp'.same.ok ok
  have hs := mvS_has mv
  have hn : ¬ Has G.S g j2 k := by
    obtain ⟨y, hy, yz, hj2⟩ := mv.fr
    rintro ⟨u, hu, hj, _⟩
    rw [hy] at hu
    obtain rfl := Option.some.inj hu
    rw [ff_at hj2] at hj; cases hj
  have hS2 : Has (mvS G.S i j g j2) g j2 k := (hs g j2 k).mpr (by rw [if_pos ⟨rfl, rfl⟩])
  have n1 : (i * m.L + j * k, k) ∉ thingsOf m (mvG m k i j g j2 G).S := fun hmem => by
    obtain ⟨i', j', h3, e⟩ := (mem_things ok2).mp hmem
    have h3' : Has (mvS G.S i j g j2) i' j' k := h3
    rw [hs] at h3'
    by_cases q : i' = g ∧ j' = j2
    · obtain ⟨rfl, rfl⟩ := q
      have hz : ∀ {a b}, Has G.S a b k → 1 ≤ k ∧ b < m.L / k := fun h => ⟨(hm.zr (h.lt ok1).2.1).1, (h.lt ok1).2.2⟩
      have p1 := page_of (i := i) (hz mv.has).1 (hz mv.has).2
      have p2 := page_of (i := i') (hz mv.has).1 (hS2.lt ok2).2.2
      rw [e] at p1
      exact mv.ne (p2.1.symm.trans p1.1)
    · rw [if_neg q] at h3'
      obtain ⟨q1, q2, _⟩ := place_inj hm ok1 mv.has h3'.1 e
      exact h3'.2 ⟨q1.symm, q2.symm⟩
  have n2 : (g * m.L + j2 * k, k) ∉ thingsOf m G.S := fun hmem => by
    obtain ⟨i', j', h3, e⟩ := (mem_things ok1).mp hmem
    by_cases q : i' = i ∧ j' = j
    · obtain ⟨rfl, rfl⟩ := q
      have p1 := page_of (i := i') (hm.zr (h3.lt ok1).2.1).1 (h3.lt ok1).2.2
      have p2 := page_of (i := g) (hm.zr (h3.lt ok1).2.1).1 (hS2.lt ok2).2.2
      rw [e] at p2
      exact mv.ne (p2.1.symm.trans p1.1)
    · have h4 : Has (mvS G.S i j g j2) i' j' k := by
        rw [hs]
        by_cases q2 : i' = g ∧ j' = j2
        · rw [if_pos q2]
        · rw [if_neg q2]; exact ⟨h3, q⟩
      obtain ⟨q1, q2, _⟩ := place_inj hm ok2 hS2 h4 e
      subst q1 q2
      exact hn h3
  refine (List.perm_ext_iff_of_nodup (List.nodup_cons.mpr ⟨n1, things_nd hm ok2⟩) (List.nodup_cons.mpr ⟨n2, things_nd hm ok1⟩)).mpr ?_
  rintro ⟨p, w⟩
  rw [List.mem_cons, mem_things ok2, List.mem_cons, mem_things ok1]
  constructor
  · rintro (e | ⟨i', j', h3, rfl⟩)
    · injection e with e1 e2
      subst e1 e2
      exact .inr ⟨i, j, mv.has, rfl⟩
    · have h3' : Has (mvS G.S i j g j2) i' j' w := h3
      rw [hs] at h3'
      by_cases q : i' = g ∧ j' = j2
      · rw [if_pos q] at h3'
        obtain ⟨rfl, rfl⟩ := q
        subst h3'
        exact .inl rfl
      · rw [if_neg q] at h3'
        exact .inr ⟨i', j', h3'.1, rfl⟩
  · rintro (e | ⟨i', j', h3, rfl⟩)
    · injection e with e1 e2
      subst e1 e2
      exact .inr ⟨g, j2, hS2, rfl⟩
    · by_cases q : i' = i ∧ j' = j
      · obtain ⟨rfl, rfl⟩ := q
        left
        rw [← h3.sf, ← mv.has.sf]
      · refine .inr ⟨i', j', ?_, rfl⟩
        show Has (mvS G.S i j g j2) i' j' w
        rw [hs]
        by_cases q2 : i' = g ∧ j' = j2
        · obtain ⟨rfl, rfl⟩ := q2
          obtain ⟨y, hy, yz, hj2⟩ := mv.fr
          obtain ⟨u, hu, hj, _⟩ := h3
          rw [hy] at hu
          obtain rfl := Option.some.inj hu
          rw [ff_at hj2] at hj; cases hj
        · rw [if_neg q2]; exact ⟨h3, q⟩
/-- the whole gathering, by the law's list -/
theorem gath_things {m : PlM} {S : Tb} {cs : List Int} {k : Nat} {out : List (Nat × Nat)} (hm : m.Ok) (ok : SOk m S) (hk : (k : Int) ∈ m.sizes) (ho : out.Perm (thingsOf m S)) :
    MvOk k out (gathG m S cs k).mv ∧ ((gathG m S cs k).mv.foldl (outSet k) out).Perm (thingsOf m (gathS m S cs k)) ∧ SameSh S (gathG m S cs k).S ∧
    (∀ i ∈ leaveO m S k, ∀ j z, ¬ Has (gathG m S cs k).S i j z) ∧ sumC (gathG m S cs k).S (own S m.n k) = sumC S (own S m.n k) := by
  have hz := hm.zr hk
  have key := gath_ind2 (cs := cs) hm ok hk (fun t j G => (MvOk k out G.mv ∧ (G.mv.foldl (outSet k) out).Perm (thingsOf m G.S)) ∧
      (∀ t' i', (leaveO m S k)[t']? = some i' → t' < t → ∀ j' z, ¬ Has G.S i' j' z) ∧ ∀ i', (leaveO m S k)[t]? = some i' → ∀ j' z, j' < j → ¬ Has G.S i' j' z)
    ⟨⟨trivial, ho⟩, (fun _ _ _ h => absurd h (Nat.not_lt_zero _)), fun _ _ _ _ h => absurd h (Nat.not_lt_zero _)⟩
    (fun t i j G ht hj gp ⟨h1, h2, h3⟩ hn => ⟨h1, h2, fun i' hi' j' z hj' hh => ?_⟩)
    (fun t i j g j2 G ht hj gp ⟨⟨h1, h1'⟩, h2, h3⟩ mv gp' => ?_)
    (fun t G ht gp ⟨h1, h2, h3⟩ => ⟨h1, fun t' i' hi' hlt j' z hh => ?_, fun _ _ _ _ h => absurd h (Nat.not_lt_zero _)⟩)
  · obtain ⟨⟨⟨h1, h2⟩, h3, _⟩, gp⟩ := key
    have hl : ∀ i ∈ leaveO m S k, ∀ j z, ¬ Has (gathG m S cs k).S i j z := fun i hi j z => by
      obtain ⟨t, ht, e⟩ := List.getElem_of_mem hi
      exact h3 t i (by rw [List.getElem?_eq_getElem ht, e]) ht j z
    refine ⟨h1, ?_, gp.same, hl, gp.sum⟩
    have ok' := gp.same.ok ok
    have : thingsOf m (gathS m S cs k) = thingsOf m (gathG m S cs k).S := things_congr hm ok' (drop_ok ok') fun i j z => drop_has (fun i hi j z => hl i hi j z) i j z
    rw [this]
    exact h2
  · rcases Nat.lt_succ_iff_lt_or_eq.mp hj' with q | q
    · exact h3 i' hi' j' z q hh
    · subst q
      obtain rfl := Option.some.inj (ht.symm.trans hi')
      have hz' : z = k := by
        obtain ⟨x, hx, _, rfl⟩ := hh
        obtain ⟨y, hy, h4, _⟩ := own_get ok gp.same (mem_leave.mp (List.mem_of_getElem? ht)).1
        rw [hx] at hy
        obtain rfl := Option.some.inj hy
        exact h4
      subst hz'
      exact hn hh
  · have hs := mvS_has mv
    have hmem : (i * m.L + j * k, k) ∈ G.mv.foldl (outSet k) out := h1'.mem_iff.mpr ((mem_things (gp.same.ok ok)).mpr ⟨i, j, mv.has, rfl⟩)
    have lnot : ∀ i', i' ∈ leaveO m S k → i' ≠ g := fun i' h e => (mem_leave.mp h).2 (by rw [e]; exact mv.gs)
    refine ⟨⟨mvOk_snoc.mpr ⟨h1, hmem⟩, ?_⟩, fun t' i' hi' hlt j' z hh => ?_, fun i' hi' j' z hj' hh => ?_⟩
    · have e : (mvG m k i j g j2 G).mv.foldl (outSet k) out = outSet k (G.mv.foldl (outSet k) out) (i * m.L + j * k, g * m.L + j2 * k) := foldl_snoc' _ _ _ _
      rw [e]
      have p1 := outSet_perm (pq := (i * m.L + j * k, g * m.L + j2 * k)) hmem
      have p2 := mv_things hm ok gp gp' mv
      exact List.Perm.cons_inv (p1.trans ((h1'.cons _).trans p2.symm))
    · have hh' : Has (mvS G.S i j g j2) i' j' z := hh
      rw [hs, if_neg (fun q => lnot i' (List.mem_of_getElem? hi') q.1)] at hh'
      exact h2 t' i' hi' hlt j' z hh'.1
    · have hh' : Has (mvS G.S i j g j2) i' j' z := hh
      rw [hs, if_neg (fun q => lnot i' (List.mem_of_getElem? hi') q.1)] at hh'
      rcases Nat.lt_succ_iff_lt_or_eq.mp hj' with q | q
      · exact h3 i' hi' j' z q hh'.1
      · obtain rfl := Option.some.inj (ht.symm.trans hi')
        exact hh'.2 ⟨rfl, q⟩
  · rcases Nat.lt_succ_iff_lt_or_eq.mp hlt with q | q
    · exact h2 t' i' hi' q j' z hh
    · subst q
      have hl := (hh.lt (gp.same.ok ok))
      have hz' : z = k := by
        obtain ⟨x, hx, _, rfl⟩ := hh
        obtain ⟨y, hy, h4, _⟩ := own_get ok gp.same (mem_leave.mp (List.mem_of_getElem? hi')).1
        rw [hx] at hy
        obtain rfl := Option.some.inj hy
        exact h4
      subst hz'
      exact h3 i' hi' j' z hl.2.2 hh
end Sb
namespace Sb
open PySem PySem.Spec PyProof.Rows L2
/-- what a law's def may change: the room's own, and the law's list -/
def StpO (o : Addr) (F : Addr → Prop) (H : Hp) (F' : Addr → Prop) (H' : Hp) : Prop := (∀ a u, H a = some u → ¬ F a → a ≠ o → H' a = some u) ∧ ∀ a, F' a → F a ∨ H a = none
theorem StpO.of {o : Addr} {F F' : Addr → Prop} {H H' : Hp} (h : Stp F H F' H') : StpO o F H F' H' := ⟨fun a u e n _ => h.1 a u e n, h.2⟩
theorem StpO.refl {o : Addr} {F : Addr → Prop} {H : Hp} : StpO o F H F H := ⟨fun _ _ h _ _ => h, fun _ h => .inl h⟩
theorem StpO.trans {o : Addr} {F F1 F2 : Addr → Prop} {H H1 H2 : Hp} (ho : ∃ u, H o = some u) (no : ¬ F o) (h : StpO o F H F1 H1) (h' : StpO o F1 H1 F2 H2) (k : ∃ u, H1 o = some u) : StpO o F H F2 H2 := by
  refine ⟨fun a u e n1 n2 => h'.1 a u (h.1 a u e n1 n2) (fun q => ?_) n2, fun a q => ?_⟩
  · rcases h.2 a q with q | q
    · exact n1 q
    · rw [e] at q; cases q
  · rcases h'.2 a q with q | q
    · exact h.2 a q
    · by_cases f : F a
      · exact .inl f
      · right
        cases e : H a with
        | none => rfl
        | some u =>
          by_cases eo : a = o
          · obtain ⟨v, hv⟩ := k
            rw [eo, hv] at q; cases q
          · rw [h.1 a u e f eo] at q; cases q
theorem TupL.data {K : PySem.W.Frag} {H : Hp} {q : Addr} {l : List (Nat × Nat)} (h : TupP H q l) : Dp K H (.ref q) (.list (l.map fun p => .tuple [.int p.1, .int p.2])) := by
  obtain ⟨ts, h1, h2⟩ := h
  refine .lst (SqL.of h1) ?_
  have key : ∀ (ts : List Addr) (l : List (Nat × Nat)), ts.map H = (l.map pairV).map (fun r => some (HO.tup r)) → DpAll K H (ts.map V.ref) (l.map fun p => .tuple [.int p.1, .int p.2]) := by
    intro ts
    induction ts with
    | nil =>
      intro l h
      cases l with
      | nil => exact .nil
      | cons p l => cases h
    | cons t ts ih =>
      intro l h
      cases l with
      | nil => cases h
      | cons p l =>
        rw [List.map_cons, List.map_cons, List.map_cons] at h
        injection h with h1 h2
        exact .cons (.tup (.inl (.inl h1)) (.cons (.int _) (.cons (.int _) .nil))) (ih l h2)
  exact key ts l h2
def pairD (p : Nat × Nat) : PyData := .tuple [.int p.1, .int p.2]
theorem sh_pair (p : Nat × Nat) : Shp (pairD p) 1 := .tuple fun d hd => by
  rcases List.mem_cons.mp hd with rfl | hd
  · exact .int _
  · rw [List.mem_singleton.mp hd]; exact .int _
theorem sh_pairs (l : List (Nat × Nat)) : Shp (.list (l.map pairD)) 2 := .list fun d hd => by
  obtain ⟨p, _, rfl⟩ := List.mem_map.mp hd
  exact sh_pair p
theorem eqv_pair (p q : Nat × Nat) : PyData.eqv (pairD p) (pairD q) = decide (p = q) := by
  obtain ⟨a, b⟩ := p
  obtain ⟨c, d⟩ := q
  simp only [pairD, PyData.eqv, PyData.eqvAll, Bool.and_true]
  rw [Bool.eq_iff_iff]
  simp
  omega
theorem TupL.at {H : Hp} {q : Addr} {rows : List (List V)} {xs : List V} (h : TupL H q rows) (hx : H q = some (.lst xs)) {i : Nat} {v : V} (hv : xs[i]? = some v) : ∃ t r, v = .ref t ∧ rows[i]? = some r ∧ H t = some (.tup r) := by
  obtain ⟨ts, h1, h2⟩ := h
  rw [h1] at hx
  injection hx with hx
  injection hx with hx
  subst hx
  rw [List.getElem?_map] at hv
  cases e : ts[i]? with
  | none => rw [e] at hv; cases hv
  | some t =>
    rw [e] at hv
    have h3 : (ts.map H)[i]? = some (H t) := by rw [List.getElem?_map, e]; rfl
    rw [h2, List.getElem?_map] at h3
    cases e2 : rows[i]? with
    | none => rw [e2] at h3; cases h3
    | some r =>
      rw [e2] at h3
      exact ⟨t, r, (Option.some.inj hv).symm, rfl, (Option.some.inj h3).symm⟩
theorem TupL.list {H : Hp} {q : Addr} {rows : List (List V)} (h : TupL H q rows) : ∃ xs, H q = some (.lst xs) ∧ xs.length = rows.length := by
  obtain ⟨ts, h1, h2⟩ := h
  exact ⟨_, h1, by rw [List.length_map, TupL.len h2]⟩
/-- one is replaced -/
theorem TupL.set {H : Hp} {q t : Addr} {rows : List (List V)} {r : List V} {j : Nat} (h : TupL H q rows) (ht : H t = some (.tup r)) {xs : List V} (hx : H q = some (.lst xs)) : TupL (upd H q (.lst (xs.set j (.ref t)))) q (rows.set j r) := by
  obtain ⟨ts, h1, h2⟩ := h
  rw [h1] at hx
  injection hx with hx
  injection hx with hx
  subst hx
  have key : ∀ u v, H u = some (.tup v) → upd H q (.lst ((ts.map V.ref).set j (.ref t))) u = some (.tup v) := fun u v e => by
    rw [upd_ne (fun z => by rw [z, h1] at e; cases e)]; exact e
  refine ⟨ts.set j t, by rw [upd_same, List.map_set], ?_⟩
  rw [List.map_set, List.map_set, map_keep h2 fun u v _ e => key u v e, key t r ht]
theorem u65 {k : Nat} {A : Around} (r : Room k A) : A.units + 65 < cLine := by have := r.un; omega
theorem any_pair (l : List (Nat × Nat)) (p : Nat × Nat) : (l.map pairD).any (fun z => PyData.eqv z (pairD p)) = decide (p ∈ l) := by
  induction l with
  | nil => rfl
  | cons a l ih =>
    rw [List.map_cons, List.any_cons, ih, eqv_pair]
    by_cases h : a = p
    · subst h; simp
    · have h2 : ¬ p = a := fun e => h e.symm
      simp [h, h2]
theorem idx_first : ∀ {l : List (Nat × Nat)} {p : Nat × Nat}, p ∈ l → l[l.idxOf p]? = some p ∧ ∀ m, m < l.idxOf p → ∀ q, l[m]? = some q → q ≠ p
  | a :: l, p, h => by
    rcases Classical.em (a = p) with e | e
    · subst e
      rw [List.idxOf_cons_self]
      exact ⟨rfl, fun m hm => absurd hm (Nat.not_lt_zero _)⟩
    · have hm : p ∈ l := by
        rcases List.mem_cons.mp h with h | h
        · exact absurd h.symm e
        · exact h
      have ei : (a :: l).idxOf p = l.idxOf p + 1 := by
        have : (a == p) = false := by simpa using e
        simp [List.idxOf_cons, this]
      obtain ⟨i1, i2⟩ := idx_first hm
      rw [ei]
      refine ⟨i1, fun m hm q hq => ?_⟩
      cases m with
      | zero => rw [List.getElem?_cons_zero] at hq; rw [← Option.some.inj hq]; exact e
      | succ m => exact i2 m (by omega) q hq
theorem dp_pair {K : PySem.W.Frag} {H : Hp} {t : Addr} {p : Nat × Nat} (h : H t = some (.tup (pairV p))) : Dp K H (.ref t) (pairD p) := .tup (.inl (.inl h)) (.cons (.int _) (.cons (.int _) .nil))
theorem dp_pairs {K : PySem.W.Frag} {H : Hp} {q : Addr} {l : List (Nat × Nat)} (h : TupP H q l) : Dp K H (.ref q) (.list (l.map pairD)) := TupL.data h
def sizeByL (ss : List Int) (w : Int) : Int := (sizeFor ss w).getD 0
def sp_law_plan_by (K : PySem.W.Frag) (A : Ad) : Sp := fun vs H Q _ => ∃ (a : Addr) (ns : List Int), vs = [.ref a] ∧ SqL K H a (ns.map V.int) ∧
  ∀ (m : PlM) q zs H', m.Ok → H q = none → H zs = none → H' q = some (.tup [.int m.pages, .int m.length, .ref zs]) → H' zs = some (.lst (m.sizes.map V.int)) → Same H H' → Q (.ref q) H'
def sp_law_size_by (K : PySem.W.Frag) (A : Ad) : Sp := fun vs H Q _ => ∃ (a : Addr) (ss : List Int) (w : Int), vs = [.ref a, .int w] ∧ SqL K H a (ss.map V.int) ∧ Q (.int (sizeByL ss w)) H
def sp_law_pairs (K : PySem.W.Frag) (A : Ad) : Sp := fun vs H Q _ => ∃ (a : Addr) (l : List (Nat × Nat)), vs = [.ref a] ∧ TupP H a l ∧ Q (.bl true) H
section
variable {P : Program} {w : World} {K : PySem.W.Frag} {mg : Str → Option Value} {base : Heap} {A : Ad}
theorem ok_law_size_by (T : Tx K mg A) : Df P w K mg base 1 "_law_size_by" ["_law_sizes", "_law_wish"] (sp_law_size_by K A) := by
  refine Dd.ok T.d_law_size_by sc_law_size_by bi_law_size_by (fun vs H Q E h => ?_) (fun f cdv Ar outer s H vs Q E hr h => ?_)
  · obtain ⟨a, ss, w, rfl, _⟩ := h; rfl
  · obtain ⟨a, ss, w, rfl, S, k⟩ := h
    refine ⟨_, (pss_cons (ps_for (passes_of rfl) rfl (pi_list (pv 0)) (pg_name (i := 2) sc_law_size_by.nd rfl (Or.inl rfl))
    (pss_one (ps_if (pt_cmpR op_ge (pv 2) (pv 1) (nomark _)) (pss_one (ps_ret (pv 2)))
    pss_nil)))
    (pss_one (ps_ret pe_int))), ?_⟩
    refine ⟨_, rfl, a, rfl, ⟨_, S⟩, for_list (K := K) (a := a) (xs := ss.map V.int) (fun n σ H' => H' = H ∧ ∃ v, σ = [some (.ref a), some (.int w), v] ∧ ∀ s ∈ ss.take n, ¬ w ≤ s) ⟨rfl, _, rfl, fun s hs => by simp at hs⟩ (fun n σ H' _ h => by rw [h.1]; exact S) ?_ ?_⟩
    · rintro n x σ H' hx ⟨rfl, v, rfl, hno⟩
      rw [List.getElem?_map] at hx
      cases e : ss[n]? with
      | none => rw [e] at hx; cases hx
      | some s =>
      rw [e] at hx
      cases hx
      obtain ⟨h1, h2⟩ := List.getElem?_eq_some_iff.mp e
      refine ⟨_, rfl, _, rfl, _, _, rfl, rfl, _, rfl, ?_⟩
      refine iteD (fun h => ?_) (fun h => ?_)
      · refine ⟨_, rfl, ?_⟩
        have e2 : sizeByL ss w = s := by
          have : sizeFor ss w = some s := by
            unfold sizeFor
            rw [List.find?_eq_some_iff_append]
            refine ⟨decide_eq_true h, ss.take n, ss.drop (n + 1), ?_, fun a ha => ?_⟩
            · rw [← h2, List.getElem_cons_drop, List.take_append_drop]
            · have := hno a ha
              simpa using this
          unfold sizeByL
          rw [this]; rfl
        rw [e2] at k
        exact k
      · refine ⟨rfl, _, rfl, fun t ht => ?_⟩
        rw [List.take_succ, e] at ht
        rcases List.mem_append.mp ht with ht | ht
        · exact hno t ht
        · rw [Option.toList_some, List.mem_singleton] at ht
          rw [ht]; exact h
    · rintro σ H' ⟨rfl, v, rfl, hno⟩
      have e2 : sizeByL ss w = 0 := by
        have : sizeFor ss w = none := by
          unfold sizeFor
          rw [List.find?_eq_none]
          intro s hs
          rw [List.length_map, List.take_length] at hno
          have := hno s hs
          simpa using this
        unfold sizeByL
        rw [this]; rfl
      rw [e2] at k
      exact k
theorem ok_law_plan_by (T : Tx K mg A) : Df P w K mg base 2 "_law_plan_by" ["_law_script"] (sp_law_plan_by K A) := by
  refine Dd.ok T.d_law_plan_by sc_law_plan_by bi_law_plan_by (fun vs H Q E h => ?_) (fun f cdv Ar outer s H vs Q E hr h => ?_)
  · obtain ⟨a, ns, rfl, _⟩ := h; rfl
  · obtain ⟨a, ns, rfl, S, k⟩ := h
    refine ⟨_, (pss_cons (ps_set (i := 1) sc_law_plan_by.nd rfl (Or.inl rfl) (pe_df (ok_law_cell_at T) hr (by decide) (by rfl) (pa_cons (pv 0) (pa_cons pe_int pa_nil))))
    (pss_cons (ps_set (i := 2) sc_law_plan_by.nd rfl (Or.inl rfl) (pe_df (ok_law_cell_at T) hr (by decide) (by rfl) (pa_cons (pv 0) (pa_cons pe_int pa_nil))))
    (pss_cons (ps_set (i := 3) sc_law_plan_by.nd rfl (Or.inl rfl) (pe_op op_add pe_int (pe_op op_mod (pv 1) pe_int)))
    (pss_cons (ps_set (i := 4) sc_law_plan_by.nd rfl (Or.inl rfl) (pe_op op_add pe_int (pe_op op_mod (pv 2) pe_int)))
    (Evl.pss_cut (ps_if (pt_cmpR op_eq (pe_op op_mod (pe_op op_fdiv (pv 1) pe_int) pe_int) pe_int (nomark _)) (pss_cons (ps_set (i := 3) sc_law_plan_by.nd rfl (Or.inl rfl) (pe_op op_add pe_int (pe_op op_mod (pe_op op_fdiv (pv 1) pe_int) pe_int)))
    (pss_one (ps_set (i := 4) sc_law_plan_by.nd rfl (Or.inl rfl) (pe_op op_add pe_int (pe_op op_mod (pv 2) pe_int)))))
    pss_nil)
    (Evl.pss_cut (ps_if (pt_cmpR op_eq (pe_op op_mod (pe_op op_fdiv (pv 1) pe_int) pe_int) pe_int (nomark _)) (pss_cons (ps_set (i := 3) sc_law_plan_by.nd rfl (Or.inl rfl) (pe_op op_add pe_int (pe_op op_mod (pe_op op_fdiv (pv 1) pe_int) pe_int)))
    (pss_one (ps_set (i := 4) sc_law_plan_by.nd rfl (Or.inl rfl) (pe_op op_add pe_int (pe_op op_mod (pv 2) pe_int)))))
    pss_nil)
    (Evl.pss_cut (ps_if (pt_cmpR op_eq (pe_op op_mod (pe_op op_fdiv (pv 1) pe_int) pe_int) pe_int (nomark _)) (pss_cons (ps_set (i := 3) sc_law_plan_by.nd rfl (Or.inl rfl) (pe_op op_add pe_int (pe_op op_mod (pe_op op_fdiv (pv 1) pe_int) pe_int)))
    (pss_one (ps_set (i := 4) sc_law_plan_by.nd rfl (Or.inl rfl) (pe_op op_add pe_int (pe_op op_mod (pv 2) pe_int)))))
    pss_nil)
    (pss_one (ps_ret (pe_tup (pa_cons (pv 3) (pa_cons (pv 4) (pa_cons (pe_df (ok_law_sizes_by T) hr (by decide) (by rfl) (pa_cons (pe_df (ok_law_cell_at T) hr (by decide) (by rfl) (pa_cons (pv 0) (pa_cons pe_int pa_nil))) (pa_cons (pv 4) (pa_cons (pe_op op_add pe_int (pe_op op_mod (pe_df (ok_law_cell_at T) hr (by decide) (by rfl) (pa_cons (pv 0) (pa_cons pe_int pa_nil))) pe_int)) pa_nil)))) pa_nil))))))))))))), ?_⟩
    have m1 : ∀ (x d : Int), 1 ≤ d → 1 ≤ 1 + x % d ∧ 1 + x % d ≤ d := fun x d hd => by
      have h1 := Int.emod_nonneg x (show d ≠ 0 by omega)
      have h2 := Int.emod_lt_of_pos x (show 0 < d by omega)
      omega
    refine ⟨_, rfl, a, ns, 0, rfl, S, ?_⟩
    refine ⟨_, rfl, a, ns, 1, rfl, S, ?_⟩
    generalize cellAt ns 0 = c0
    generalize cellAt ns 1 = c1
    refine ⟨_, rfl, _, _, rfl, rfl, (by show (0 : Int) < 6; decide), _, _, rfl, rfl, ?_⟩
    refine ⟨_, rfl, _, _, rfl, rfl, (by show (0 : Int) < 12; decide), _, _, rfl, rfl, ?_⟩
    have a6 := m1 c0 6 (by decide)
    have a12 := m1 c1 12 (by decide)
    refine ⟨fun σ H' => H' = H ∧ ∃ p l : Int, σ = [some (.ref a), some (.int c0), some (.int c1), some (.int p), some (.int l)] ∧ 1 ≤ p ∧ p ≤ 40 ∧ 1 ≤ l ∧ l ≤ 60, ?_, ?_⟩
    · refine ⟨_, rfl, _, _, rfl, rfl, ⟨by decide, by decide⟩, _, _, rfl, rfl, (by show (0 : Int) < 8; decide), rfl, _, rfl, ?_⟩
      refine iteD (fun _ => ?_) (fun _ => ?_)
      · have a40 := m1 (c0 / 48) 40 (by decide)
        have a4 := m1 c1 4 (by decide)
        refine ⟨_, rfl, _, _, rfl, rfl, ⟨by decide, by decide⟩, _, _, rfl, rfl, (by show (0 : Int) < 40; decide), _, _, rfl, rfl, ?_⟩
        refine ⟨_, rfl, _, _, rfl, rfl, (by show (0 : Int) < 4; decide), _, _, rfl, rfl, ?_⟩
        exact ⟨rfl, _, _, rfl, by omega, by omega, by omega, by omega⟩
      · exact ⟨rfl, _, _, rfl, by omega, by omega, by omega, by omega⟩
    rintro σ H1 ⟨e1, p, l, rfl, b1, b2, b3, b4⟩
    have e1' := e1.symm
    subst e1'
    refine ⟨fun σ H' => H' = H ∧ ∃ p l : Int, σ = [some (.ref a), some (.int c0), some (.int c1), some (.int p), some (.int l)] ∧ 1 ≤ p ∧ p ≤ 40 ∧ 1 ≤ l ∧ l ≤ 60, ?_, ?_⟩
    · refine ⟨_, rfl, _, _, rfl, rfl, ⟨by decide, by decide⟩, _, _, rfl, rfl, (by show (0 : Int) < 8; decide), rfl, _, rfl, ?_⟩
      refine iteD (fun _ => ?_) (fun _ => ?_)
      · have a40 := m1 (c0 / 48) 2 (by decide)
        have a4 := m1 c1 60 (by decide)
        refine ⟨_, rfl, _, _, rfl, rfl, ⟨by decide, by decide⟩, _, _, rfl, rfl, (by show (0 : Int) < 2; decide), _, _, rfl, rfl, ?_⟩
        refine ⟨_, rfl, _, _, rfl, rfl, (by show (0 : Int) < 60; decide), _, _, rfl, rfl, ?_⟩
        exact ⟨rfl, _, _, rfl, by omega, by omega, by omega, by omega⟩
      · exact ⟨rfl, _, _, rfl, by omega, by omega, by omega, by omega⟩
    rintro σ H1 ⟨e1, p, l, rfl, b1, b2, b3, b4⟩
    have e1' := e1.symm
    subst e1'
    refine ⟨fun σ H' => H' = H ∧ ∃ p l : Int, σ = [some (.ref a), some (.int c0), some (.int c1), some (.int p), some (.int l)] ∧ 1 ≤ p ∧ p ≤ 40 ∧ 1 ≤ l ∧ l ≤ 60, ?_, ?_⟩
    · refine ⟨_, rfl, _, _, rfl, rfl, ⟨by decide, by decide⟩, _, _, rfl, rfl, (by show (0 : Int) < 8; decide), rfl, _, rfl, ?_⟩
      refine iteD (fun _ => ?_) (fun _ => ?_)
      · have a40 := m1 (c0 / 48) 40 (by decide)
        have a4 := m1 c1 60 (by decide)
        refine ⟨_, rfl, _, _, rfl, rfl, ⟨by decide, by decide⟩, _, _, rfl, rfl, (by show (0 : Int) < 40; decide), _, _, rfl, rfl, ?_⟩
        refine ⟨_, rfl, _, _, rfl, rfl, (by show (0 : Int) < 60; decide), _, _, rfl, rfl, ?_⟩
        exact ⟨rfl, _, _, rfl, by omega, by omega, by omega, by omega⟩
      · exact ⟨rfl, _, _, rfl, by omega, by omega, by omega, by omega⟩
    rintro σ H1 ⟨e1, p, l, rfl, b1, b2, b3, b4⟩
    have e1' := e1.symm
    subst e1'
    -- the sizes
    refine ⟨_, rfl, _, rfl, _, rfl, a, ns, 2, rfl, S, _, rfl, _, rfl, a, ns, 3, rfl, S, _, _, rfl, rfl, (by show (0 : Int) < 8; decide), _, _, rfl, rfl, ?_⟩
    have a8 := m1 (cellAt ns 3) 8 (by decide)
    refine ⟨cellAt ns 2, l, (1 + cellAt ns 3 % 8).toNat, ?_, b3, b4, by omega, fun q H1 hq s1 h1 => ?_⟩
    · rw [show (((1 + cellAt ns 3 % 8).toNat : Nat) : Int) = 1 + cellAt ns 3 % 8 by omega]; rfl
    have hok := sizesBy_ok (c := cellAt ns 2) (l := l) (n := (1 + cellAt ns 3 % 8).toNat) b3 (by omega)
    have hn8 : (1 + cellAt ns 3 % 8).toNat ≤ 8 := by omega
    generalize sizesBy (cellAt ns 2) l (1 + cellAt ns 3 % 8).toNat = ss at h1 hok
    have mok : (PlM.mk p l ss).Ok := ⟨b1, b2, b3, b4, hok.1, Nat.le_trans hok.2.1 hn8, hok.2.2.2, hok.2.2.1⟩
    refine ⟨(by show 3 ≤ sizeLine; decide), fun t ht => ?_⟩
    have nqt : q ≠ t := fun e => by rw [e, ht] at h1; cases h1
    have ht0 : H t = none := by
      cases c : H t with
      | none => rfl
      | some o => rw [s1 _ _ c] at ht; cases ht
    exact k ⟨p, l, ss⟩ t q _ mok ht0 hq upd_same (by rw [upd_ne nqt]; exact h1) (Same.up s1 ht0)
end
end Sb
namespace Sb
open PySem PySem.Spec PyProof.Rows L2
/-! ### the room that is left, in plain Lean -/
theorem frs_len (l : List Bool) : (frs_ l).length + cnt l = l.length := by
  have key : ∀ n, n ≤ l.length → ((List.range n).filter fun k => !(l.getD k true)).length + (l.take n).count true = n := by
    intro n
    induction n with
    | zero => intro _; simp
    | succ n ih =>
      intro hn
      have h1 := ih (by omega)
      obtain ⟨b, hb⟩ : ∃ b, l[n]? = some b := ⟨_, List.getElem?_eq_getElem (by omega)⟩
      have eg : l.getD n true = b := by rw [List.getD_eq_getElem?_getD, hb]; rfl
      have h2 : (if b = true then ([] : List Nat) else [n]).length + (Option.toList (some b)).count true = 1 := by cases b <;> rfl
      rw [frs_succ, List.length_append, eg, List.take_succ, hb, List.count_append]
      omega
  have := key l.length (Nat.le_refl _)
  rw [List.take_length] at this
  exact this
def rfAt (k q : Nat) (o : Option Sf) : Nat := match o with
  | none => q
  | some x => if x.z = k then x.tk.length - cnt x.tk else if cnt x.tk = 0 then q else 0
def rfAll (S : Tb) (k q : Nat) (l : List Nat) : Nat := (l.map fun i => rfAt k q (S i)).sum
theorem rf_fold {S : Tb} {k q : Nat} : ∀ (l : List Nat) (a : Nat × Nat), ((l.filter fun i => (S i).isSome).foldl (rfStep S k) a).1 + (((l.filter fun i => (S i).isSome).foldl (rfStep S k) a).2 + (l.filter fun i => (S i).isNone).length) * q = a.1 + a.2 * q + rfAll S k q l
  | [], a => by simp [rfAll]
  | i :: l, a => by
    have e1 : rfAll S k q (i :: l) = rfAt k q (S i) + rfAll S k q l := rfl
    rw [e1]
    cases h : S i with
    | none =>
      rw [List.filter_cons_of_neg (by rw [h]; decide), List.filter_cons_of_pos (by rw [h]; rfl), List.length_cons]
      have ih := rf_fold (S := S) (k := k) (q := q) l a
      have e2 : rfAt k q none = q := rfl
      rw [e2, ← Nat.add_assoc, Nat.add_mul _ 1 q, Nat.one_mul]
      omega
    | some x =>
      rw [List.filter_cons_of_pos (by rw [h]; rfl), List.filter_cons_of_neg (by rw [h]; simp), List.foldl_cons]
      have ih := rf_fold (S := S) (k := k) (q := q) l (rfStep S k a i)
      rw [ih]
      unfold rfStep
      rw [sfOf_at h]
      show _ = _ + ((if x.z = k then x.tk.length - cnt x.tk else if cnt x.tk = 0 then q else 0) + _)
      have hf := frs_len x.tk
      by_cases h1 : x.z = k
      · rw [if_pos h1, if_pos h1]; dsimp only; omega
      · rw [if_neg h1, if_neg h1]
        by_cases h2 : cnt x.tk = 0
        · rw [if_pos h2, if_pos h2]; dsimp only; rw [Nat.add_mul, Nat.one_mul]; omega
        · rw [if_neg h2, if_neg h2]; omega
theorem roomFor_eq (m : PlM) (S : Tb) (k : Nat) : roomFor m S k = rfAll S k (m.L / k) (List.range m.n) := by
  have h := rf_fold (S := S) (k := k) (q := m.L / k) (List.range m.n) (0, 0)
  have key : ∀ (l : List Nat) (a : Nat × Nat) (c : Nat), (l.foldl (rfStep S k) (a.1, a.2 + c)) = ((l.foldl (rfStep S k) a).1, (l.foldl (rfStep S k) a).2 + c) := by
    intro l
    induction l with
    | nil => intro a c; rfl
    | cons i l ih =>
      intro a c
      rw [List.foldl_cons, List.foldl_cons]
      have e : rfStep S k (a.1, a.2 + c) i = ((rfStep S k a i).1, (rfStep S k a i).2 + c) := by
        unfold rfStep
        by_cases h1 : (sfOf S i).z = k
        · rw [if_pos h1, if_pos h1]
        · rw [if_neg h1, if_neg h1]
          by_cases h2 : cnt (sfOf S i).tk = 0
          · rw [if_pos h2, if_pos h2]; dsimp only; congr 1; omega
          · rw [if_neg h2, if_neg h2]
      rw [e]
      exact ih _ c
  unfold roomFor rfSum
  have k2 := key (pgs S m.n) (0, 0) (nones S m.n).length
  have e0 : ((0, 0) : Nat × Nat).2 + (nones S m.n).length = (nones S m.n).length := Nat.zero_add _
  rw [e0] at k2
  show ((pgs S m.n).foldl (rfStep S k) (0, (nones S m.n).length)).1 + ((pgs S m.n).foldl (rfStep S k) (0, (nones S m.n).length)).2 * (m.L / k) = _
  have k3 : (pgs S m.n).foldl (rfStep S k) (0, (nones S m.n).length) = (((pgs S m.n).foldl (rfStep S k) (0, 0)).1, ((pgs S m.n).foldl (rfStep S k) (0, 0)).2 + (nones S m.n).length) := k2
  rw [k3]
  have h' : ((pgs S m.n).foldl (rfStep S k) (0, 0)).1 + (((pgs S m.n).foldl (rfStep S k) (0, 0)).2 + (nones S m.n).length) * (m.L / k) = 0 + 0 * (m.L / k) + rfAll S k (m.L / k) (List.range m.n) := h
  dsimp only
  omega
/-- one page changes -/
theorem rfAll_set {S S' : Tb} {k q i : Nat} : ∀ {l : List Nat}, l.Nodup → i ∈ l → (∀ j ∈ l, j ≠ i → rfAt k q (S' j) = rfAt k q (S j)) → rfAll S' k q l + rfAt k q (S i) = rfAll S k q l + rfAt k q (S' i)
  | a :: l, nd, hi, h => by
    obtain ⟨n1, n2⟩ := List.nodup_cons.mp nd
    have e1 : ∀ T : Tb, rfAll T k q (a :: l) = rfAt k q (T a) + rfAll T k q l := fun _ => rfl
    rw [e1, e1]
    by_cases e : i = a
    · subst e
      have : rfAll S' k q l = rfAll S k q l := by
        unfold rfAll
        congr 1
        exact List.map_congr_left fun j hj => h j (List.mem_cons_of_mem _ hj) (fun z => n1 (by rw [← z]; exact hj))
      omega
    · have hm : i ∈ l := by
        rcases List.mem_cons.mp hi with hi | hi
        · exact absurd hi e
        · exact hi
      have ih := rfAll_set n2 hm fun j hj hn => h j (List.mem_cons_of_mem _ hj) hn
      have := h a List.mem_cons_self (fun z => e z.symm)
      omega
theorem rfAll_zero {S : Tb} {k q : Nat} : ∀ {l : List Nat}, rfAll S k q l = 0 ↔ ∀ i ∈ l, rfAt k q (S i) = 0
  | [] => by simp [rfAll]
  | a :: l => by
    have e1 : rfAll S k q (a :: l) = rfAt k q (S a) + rfAll S k q l := rfl
    rw [e1, Nat.add_eq_zero_iff, rfAll_zero]
    simp
theorem pickStep_some {S : Tb} {z i b : Nat} : ∃ c, pickStep S z (some b) i = some c := by
  unfold pickStep
  split
  · split
    · exact ⟨_, rfl⟩
    · exact ⟨_, rfl⟩
  · exact ⟨_, rfl⟩
theorem pickFold_some {S : Tb} {z : Nat} : ∀ (l : List Nat) (b : Nat), ∃ c, l.foldl (pickStep S z) (some b) = some c
  | [], b => ⟨b, rfl⟩
  | i :: l, b => by
    obtain ⟨c, hc⟩ := pickStep_some (S := S) (z := z) (i := i) (b := b)
    rw [List.foldl_cons, hc]
    exact pickFold_some l c
theorem pickFold_none {S : Tb} {z : Nat} : ∀ {l : List Nat}, l.foldl (pickStep S z) none = none → ∀ i ∈ l, ∀ x, S i = some x → x.z = z → ¬ cnt x.tk < x.tk.length
  | a :: l, h, i, hi, x, hx, hz => fun hc => by
    rw [List.foldl_cons] at h
    have hn : pickStep S z none a = none := by
      cases e : pickStep S z none a with
      | none => rfl
      | some b =>
        rw [e] at h
        obtain ⟨c, hc⟩ := pickFold_some (S := S) (z := z) l b
        rw [hc] at h; cases h
    rcases List.mem_cons.mp hi with e | hm
    · subst e
      unfold pickStep at hn
      rw [hx] at hn
      dsimp only at hn
      rw [if_pos ⟨hz, hc, rfl⟩] at hn
      cases hn
    · rw [hn] at h
      exact pickFold_none h i hm x hx hz hc
theorem pick_none {S : Tb} {n z i : Nat} {x : Sf} (h : pick S n z = none) (hi : i < n) (hx : S i = some x) (hz : x.z = z) : ¬ cnt x.tk < x.tk.length :=
  pickFold_none h i (mem_pgs.mpr ⟨hi, by rw [hx]; rfl⟩) x hx hz
/-- a wish takes one of what is left -/
theorem wish_room {m : PlM} {S S' : Tb} {k i j : Nat} (hm : m.Ok) (ok : SOk m S) (hk : (k : Int) ∈ m.sizes) (h : wishT m S k = some (i, j, S')) : roomFor m S' k + 1 = roomFor m S k ∧ Has S' i j k := by
  have hz := hm.zr hk
  have hp := per1 hz.1 hz.2
  have hh : Has S' i j k := ((wishT_ok hz.1 hz.2 h).1 i j k).mpr (by rw [if_pos ⟨rfl, rfl⟩])
  refine ⟨?_, hh⟩
  rw [roomFor_eq, roomFor_eq]
  unfold wishT at h
  split at h
  · cases h
  · rename_i i0 S1 e
    obtain ⟨x, hx, xz, xc⟩ := shelfFor_ok hp e
    rw [sfOf_at hx] at h
    split at h
    · cases h
    · rename_i j0 ej
      cases h
      have fj := cnt_set_true (ff_at ej)
      have e2 : rfAt k (m.L / k) ((updT S1 i (some ⟨k, x.tk.set j true⟩)) i) + 1 = x.tk.length - cnt x.tk := by
        rw [updT_same]
        show (if k = k then (x.tk.set j true).length - cnt (x.tk.set j true) else _) + 1 = _
        rw [if_pos rfl, List.length_set]
        omega
      have key : i < m.n ∧ rfAt k (m.L / k) (S i) = x.tk.length - cnt x.tk ∧ ∀ q, q ≠ i → S1 q = S q := by
        unfold shelfFor at e
        split at e
        · rename_i i1 ep
          cases e
          refine ⟨(ok i x hx).1, ?_, fun _ _ => rfl⟩
          rw [hx]
          show (if x.z = k then _ else _) = _
          rw [if_pos xz]
        · rename_i ep
          split at e
          · cases e
          · rename_i i1 S0 ef
            cases e
            obtain ⟨f1, f2, f3⟩ := fresh_ok ef
            rw [updT_same] at hx
            obtain rfl := Option.some.inj hx
            have ex : (List.replicate (m.L / k) false).length - cnt (List.replicate (m.L / k) false) = m.L / k := by simp [cnt, List.count_replicate]
            refine ⟨f1, ?_, fun q hq => ?_⟩
            · show _ = (List.replicate (m.L / k) false).length - cnt (List.replicate (m.L / k) false)
              rw [ex]
              cases eS : S i with
              | none => rfl
              | some y =>
                have he : isEmp S i = true := by
                  unfold fresh at ef
                  split at ef
                  · rename_i i' r e'
                    cases ef
                    have := (mem_nones.mp (by rw [e']; exact List.mem_cons_self : i ∈ nones S m.n)).2
                    rw [eS] at this; cases this
                  · split at ef
                    · rename_i i' r e'
                      cases ef
                      exact (mem_emps.mp (by rw [e']; exact List.mem_cons_self : i ∈ emps S m.n)).2
                    · cases ef
                rw [isEmp_at eS] at he
                have hc0 := of_decide_eq_true he
                show (if y.z = k then y.tk.length - cnt y.tk else if cnt y.tk = 0 then m.L / k else 0) = _
                by_cases hy : y.z = k
                · rw [if_pos hy, hc0, (ok i y eS).2.2, hy, Nat.sub_zero]
                · rw [if_neg hy, if_pos hc0]
            · rw [updT_ne hq]
              rcases f3 with rfl | rfl
              · rfl
              · exact updT_ne hq
      obtain ⟨k1, k2, k3⟩ := key
      have := rfAll_set (S := S) (S' := updT S1 i (some ⟨k, x.tk.set j true⟩)) (k := k) (q := m.L / k) List.nodup_range (List.mem_range.mpr k1) fun q _ hq => by rw [updT_ne hq, k3 q hq]
      rw [k2] at this
      have hxc : cnt x.tk < x.tk.length := xc
      omega
/-- where none is met, nothing is left; and the other way -/
theorem wish_none {m : PlM} {S : Tb} {k : Nat} (hm : m.Ok) (ok : SOk m S) (hk : (k : Int) ∈ m.sizes) : wishT m S k = none ↔ roomFor m S k = 0 := by
  have hz := hm.zr hk
  have hp := per1 hz.1 hz.2
  constructor
  · intro h
    rw [roomFor_eq, rfAll_zero]
    intro i hi
    have hin := List.mem_range.mp hi
    have hs : shelfFor S m.n k (m.L / k) = none := by
      unfold wishT at h
      split at h
      · rename_i e; exact e
      · rename_i i0 S1 e
        obtain ⟨x, hx, xz, xc⟩ := shelfFor_ok hp e
        obtain ⟨j, hj⟩ := ff_ex xc
        rw [sfOf_at hx, hj] at h
        cases h
    unfold shelfFor at hs
    split at hs
    · cases hs
    · rename_i ep
      split at hs
      · rename_i ef
        unfold fresh at ef
        split at ef
        · cases ef
        · rename_i en
          split at ef
          · cases ef
          · rename_i em
            cases eS : S i with
            | none =>
              have : i ∈ nones S m.n := mem_nones.mpr ⟨hin, by rw [eS]; rfl⟩
              rw [en] at this; cases this
            | some x =>
              show (if x.z = k then x.tk.length - cnt x.tk else if cnt x.tk = 0 then m.L / k else 0) = 0
              by_cases hx : x.z = k
              · rw [if_pos hx]
                have := pick_none ep hin eS hx
                omega
              · rw [if_neg hx, if_neg]
                intro hc
                have : i ∈ emps S m.n := mem_emps.mpr ⟨hin, by rw [isEmp_at eS]; exact decide_eq_true hc⟩
                rw [em] at this; cases this
      · cases hs
  · intro h
    cases e : wishT m S k with
    | none => rfl
    | some p =>
      obtain ⟨i, j, S'⟩ := p
      have := (wish_room hm ok hk e).1
      omega
/-- the last one given back, one is left -/
theorem give_room {m : PlM} {S : Tb} {k i j : Nat} (hm : m.Ok) (ok : SOk m S) (h0 : roomFor m S k = 0) (h : Has S i j k) : roomFor m (giveT m S i j) k = 1 := by
  obtain ⟨l1, l2, l3⟩ := h.lt ok
  have hz := hm.zr l2
  have hp := per1 hz.1 hz.2
  obtain ⟨x, hx, hj, xz⟩ := h
  have fj := cnt_set_false hj
  rw [roomFor_eq] at h0
  have z0 := rfAll_zero.mp h0
  have zi := z0 i (List.mem_range.mpr l1)
  rw [hx] at zi
  have zi' : x.tk.length - cnt x.tk = 0 := by
    have : (if x.z = k then x.tk.length - cnt x.tk else if cnt x.tk = 0 then m.L / k else 0) = 0 := zi
    rw [if_pos xz] at this
    exact this
  have xl : x.tk.length = m.L / k := by rw [(ok i x hx).2.2, xz]
  have cle := cnt_le x.tk
  have eg : giveT m S i j = giveS S i j := by
    unfold giveT
    rw [if_neg]
    rintro ⟨h1, h2⟩
    -- another empty one would be room
    have nd : (others (giveS S i j) m.n (sfOf S i).z).Nodup := (nodup_lt (emps_lt _ _)).filter _
    obtain ⟨q, hq, hqi⟩ : ∃ q, q ∈ others (giveS S i j) m.n (sfOf S i).z ∧ q ≠ i := by
      generalize others (giveS S i j) m.n (sfOf S i).z = l at nd h2
      cases l with
      | nil => simp at h2
      | cons a l =>
        cases l with
        | nil => simp at h2
        | cons b l =>
          obtain ⟨n1, _⟩ := List.nodup_cons.mp nd
          by_cases e : a = i
          · exact ⟨b, List.mem_cons_of_mem _ List.mem_cons_self, fun e2 => n1 (by rw [e, ← e2]; exact List.mem_cons_self)⟩
          · exact ⟨a, List.mem_cons_self, e⟩
    obtain ⟨hq1, hq2⟩ := List.mem_filter.mp hq
    obtain ⟨hq3, hq4⟩ := mem_emps.mp hq1
    have hSq : giveS S i j q = S q := by unfold giveS; exact updT_ne hqi
    unfold isEmp at hq4
    rw [hSq] at hq4
    cases eq : S q with
    | none => rw [eq] at hq4; cases hq4
    | some y =>
      rw [eq] at hq4
      have hc : cnt y.tk = 0 := of_decide_eq_true hq4
      have hyz : y.z = k := by
        have h5 := of_decide_eq_true hq2
        rw [sfOf_at (by rw [hSq, eq] : giveS S i j q = some y), sfOf_at hx, xz] at h5
        exact h5
      have := z0 q (List.mem_range.mpr hq3)
      rw [eq] at this
      have h6 : (if y.z = k then y.tk.length - cnt y.tk else if cnt y.tk = 0 then m.L / k else 0) = 0 := this
      rw [if_pos hyz, hc, (ok q y eq).2.2, hyz] at h6
      omega
  rw [eg, roomFor_eq]
  have e2 : rfAt k (m.L / k) (giveS S i j i) = x.tk.length - cnt (x.tk.set j false) := by
    unfold giveS
    rw [updT_same, sfOf_at hx]
    show (if x.z = k then (x.tk.set j false).length - cnt (x.tk.set j false) else _) = _
    rw [if_pos xz, List.length_set]
  have := rfAll_set (S := S) (S' := giveS S i j) (k := k) (q := m.L / k) List.nodup_range (List.mem_range.mpr l1) fun q _ hq => by unfold giveS; rw [updT_ne hq]
  rw [e2, hx] at this
  have z3 : rfAt k (m.L / k) (some x) = 0 := zi
  rw [z3] at this
  omega
end Sb
namespace Sb
open PySem PySem.Spec PyProof.Rows L2
/-- nothing further is kept of a room -/
def Iv (m : PlM) (S : Tb) : Prop := True
theorem Iv.new {m : PlM} : Iv m (fun _ => none) := trivial
theorem Iv.wish {m : PlM} {S S' : Tb} {k i j : Nat} (hm : m.Ok) (ok : SOk m S) (v : Iv m S) (hk : (k : Int) ∈ m.sizes) (h : wishT m S k = some (i, j, S')) : Iv m S' := trivial
theorem Iv.give {m : PlM} {S : Tb} {i j z : Nat} (hm : m.Ok) (ok : SOk m S) (v : Iv m S) (h : Has S i j z) : Iv m (giveT m S i j) := trivial
theorem Iv.trim {m : PlM} {S : Tb} (hm : m.Ok) (ok : SOk m S) (v : Iv m S) : Iv m (trimT S m.n) := trivial
theorem Iv.gath {m : PlM} {S : Tb} {cs : List Int} {k : Nat} (hm : m.Ok) (ok : SOk m S) (v : Iv m S) (hk : (k : Int) ∈ m.sizes) : Iv m (gathS m S cs k) := trivial
end Sb
namespace Sb
open PySem PySem.Spec PyProof.Rows L2
/-- the room, and the law's list of what is out -/
structure Wd (A : Ad) (H : Hp) (r pa z : Addr) (m : PlM) (F : Addr → Prop) (S : Tb) (cs : List Int) (o : Addr) (out : List (Nat × Nat)) : Prop where
  R : RoomAt A H r pa z m F S cs
  no : ¬ F o
  np : o ≠ pa ∧ o ≠ z
  tp : TupP H o out
  pm : out.Perm (thingsOf m S)
  iv : Iv m S
theorem RoomAt.noTup {A : Ad} {H : Hp} {r pa z a : Addr} {m : PlM} {F : Addr → Prop} {S : Tb} {cs : List Int} {x : List V} (R : RoomAt A H r pa z m F S cs) (h : H a = some (.tup x)) : ¬ F a := by
  obtain ⟨s, I, _, _, _, _, rfl⟩ := R
  exact I.noTup h
theorem RoomAt.nofoot {A : Ad} {H : Hp} {r pa z a : Addr} {m : PlM} {F : Addr → Prop} {S : Tb} {cs : List Int} (R : RoomAt A H r pa z m F S cs) (h : H a = none) : ¬ F a := by
  obtain ⟨s, I, _, _, _, _, rfl⟩ := R
  exact I.nofoot h
theorem RoomAt.out {A : Ad} {H : Hp} {r pa z a : Addr} {u : HO} {m : PlM} {F : Addr → Prop} {S : Tb} {cs : List Int} (R : RoomAt A H r pa z m F S cs) (n : ¬ F a) (np : a ≠ pa ∧ a ≠ z) : RoomAt A (upd H a u) r pa z m F S cs := by
  obtain ⟨s, I, h1, h2, h3, h4, rfl⟩ := R
  exact ⟨s, I.out n np.1 np.2, h1, h2, h3, h4, rfl⟩
theorem TupL.stpR {A : Ad} {H H' : Hp} {r pa z q : Addr} {m : PlM} {F F' : Addr → Prop} {S : Tb} {cs : List Int} {rows : List (List V)} (h : TupL H q rows) (R : RoomAt A H r pa z m F S cs) (n : ¬ F q) (k : Stp F H F' H') : TupL H' q rows := by
  obtain ⟨ts, h1, h2⟩ := h
  exact ⟨ts, k.1 _ _ h1 n, map_keep h2 fun t x _ e => k.1 _ _ e (R.noTup e)⟩
theorem things_len {m : PlM} (hm : m.Ok) (S : Tb) : (thingsOf m S).length ≤ 2400 := by
  have h1 := len_flatMap_le (fun i => thingsOn m S i (m.L / (sfOf S i).z)) 60 (pgs S m.n) fun x _ => Nat.le_trans (thingsOn_len _ _ _ _) (Nat.le_trans (Nat.div_le_self _ _) hm.L60)
  have h2 := Nat.le_trans (pgs_len S m.n) (plen m hm)
  unfold thingsOf
  omega
theorem Wd.len {A : Ad} {H : Hp} {r pa z o : Addr} {m : PlM} {F : Addr → Prop} {S : Tb} {cs : List Int} {out : List (Nat × Nat)} (W : Wd A H r pa z m F S cs o out) : out.length ≤ 2400 := by
  rw [W.pm.length_eq]
  exact things_len W.R.pl.ok S
theorem Wd.same {A : Ad} {H H' : Hp} {r pa z o : Addr} {m : PlM} {F : Addr → Prop} {S : Tb} {cs : List Int} {out : List (Nat × Nat)} (W : Wd A H r pa z m F S cs o out) (k : Same H H') : Wd A H' r pa z m F S cs o out :=
  ⟨W.R.same k, W.no, W.np, W.tp.keep k, W.pm, W.iv⟩
theorem Wd.ex {A : Ad} {H : Hp} {r pa z o : Addr} {m : PlM} {F : Addr → Prop} {S : Tb} {cs : List Int} {out : List (Nat × Nat)} (W : Wd A H r pa z m F S cs o out) : ∃ u, H o = some u := by
  obtain ⟨ts, h, _⟩ := W.tp
  exact ⟨_, h⟩
def WdTo (A : Ad) (H : Hp) (r pa z : Addr) (m : PlM) (F : Addr → Prop) (o : Addr) (Q : Hp → Prop) : Prop := ∀ H' F' S' cs' out', Wd A H' r pa z m F' S' cs' o out' → StpO o F H F' H' → Q H'
def sp_law_gathered (K : PySem.W.Frag) (A : Ad) : Sp := fun vs H Q _ => ∃ (r pa z : Addr) (m : PlM) (F : Addr → Prop) (S : Tb) (cs : List Int) (o : Addr) (out : List (Nat × Nat)) (k : Nat), vs = [.ref r, .int (k : Nat), .ref o] ∧ Wd A H r pa z m F S cs o out ∧ (k : Int) ∈ m.sizes ∧ WdTo A H r pa z m F o fun H' => Q (.bl true) H'
def sp_law_asked (K : PySem.W.Frag) (A : Ad) : Sp := fun vs H Q _ => ∃ (r pa z zs : Addr) (m : PlM) (F : Addr → Prop) (S : Tb) (cs : List Int) (o : Addr) (out : List (Nat × Nat)) (w : Int), vs = [.ref r, .ref zs, .ref o, .int w] ∧ Wd A H r pa z m F S cs o out ∧ SqL K H zs (m.sizes.map V.int) ∧ ¬ F zs ∧ zs ≠ o ∧ 1 ≤ w ∧ WdTo A H r pa z m F o fun H' => Q (.bl true) H'
def sp_law_step (K : PySem.W.Frag) (A : Ad) : Sp := fun vs H Q _ => ∃ (r pa z zs : Addr) (m : PlM) (F : Addr → Prop) (S : Tb) (cs : List Int) (o : Addr) (out : List (Nat × Nat)) (c : Int), vs = [.ref r, .int m.length, .ref zs, .ref o, .int c] ∧ Wd A H r pa z m F S cs o out ∧ H zs = some (.lst (m.sizes.map V.int)) ∧ ¬ F zs ∧ zs ≠ o ∧ WdTo A H r pa z m F o fun H' => Q (.bl true) H'
theorem eqv_nilP (l : List (Nat × Nat)) : PyData.eqv (.list (l.map pairD)) (dInts []) = decide (l = []) := by
  cases l with
  | nil => rfl
  | cons x xs => simp [PyData.eqv, PyData.eqvAll]
theorem erase_map {α β : Type} (f : α → β) : ∀ (l : List α) (j : Nat), (l.map f).eraseIdx j = (l.eraseIdx j).map f
  | [], j => by simp
  | a :: l, 0 => by simp
  | a :: l, j + 1 => by
    have ih := erase_map f l j
    simp [ih]
theorem TupL.erase {H : Hp} {q : Addr} {rows : List (List V)} {xs : List V} {j : Nat} (h : TupL H q rows) (hx : H q = some (.lst xs)) : TupL (upd H q (.lst (xs.eraseIdx j))) q (rows.eraseIdx j) := by
  obtain ⟨ts, h1, h2⟩ := h
  rw [h1] at hx
  injection hx with hx
  injection hx with hx
  subst hx
  have em : ∀ {α β : Type} (f : α → β) (l : List α) (j : Nat), (l.map f).eraseIdx j = (l.eraseIdx j).map f := by
    intro α β f l
    induction l with
    | nil => intro j; simp
    | cons a l ih => intro j; cases j <;> simp [ih]
  have key : ∀ u v, H u = some (.tup v) → upd H q (.lst ((ts.map V.ref).eraseIdx j)) u = some (.tup v) := fun u v e => by
    rw [upd_ne (fun z => by rw [z, h1] at e; cases e)]; exact e
  refine ⟨ts.eraseIdx j, by rw [upd_same, em], ?_⟩
  rw [← em, ← em, map_keep h2 fun u v _ e => key u v e]
theorem perm_eraseA {α : Type} : ∀ {l : List α} {j : Nat} (h : j < l.length), (l[j] :: l.eraseIdx j).Perm l
  | a :: r, 0, _ => by simp
  | a :: r, j + 1, h => by
    have ih := perm_eraseA (l := r) (j := j) (by simpa using h)
    simp only [List.getElem_cons_succ, List.eraseIdx_cons_succ]
    exact (List.Perm.swap _ _ _).trans (ih.cons a)
/-- one that is out is given back -/
theorem Wd.give {A : Ad} {H H1 : Hp} {r pa z o : Addr} {m : PlM} {F F1 : Addr → Prop} {S : Tb} {cs : List Int} {out : List (Nat × Nat)} {i j n : Nat} {p : Nat × Nat} (W : Wd A H r pa z m F S cs o out) (hp : out[n]? = some p) (hl : locate m S (p.1 : Int) = some (i, j))
    (R1 : RoomAt A H1 r pa z m F1 (giveT m S i j) cs) (no1 : ¬ F1 o) (tp1 : TupP H1 o (out.eraseIdx n)) : Wd A H1 r pa z m F1 (giveT m S i j) cs o (out.eraseIdx n) := by
  have hm := W.R.pl.ok
  have ok := W.R.ok
  have hmem : (p.1, p.2) ∈ thingsOf m S := W.pm.mem_iff.mp (List.mem_of_getElem? hp)
  obtain ⟨i', j', hl', hh, hpe⟩ := locate_things hm ok hmem
  rw [hl] at hl'
  injection hl' with hl'
  injection hl' with e1 e2
  subst e1 e2
  obtain ⟨hn, hn2⟩ := List.getElem?_eq_some_iff.mp hp
  refine ⟨R1, no1, W.np, tp1, ?_, Iv.give hm ok W.iv hh⟩
  have p1 := perm_eraseA hn
  rw [hn2] at p1
  have p2 := give_things hm ok R1.ok hh
  have ep : p = (i * m.L + j * p.2, p.2) := by rw [← hpe]
  rw [ep] at p1
  exact List.Perm.cons_inv (p1.trans (W.pm.trans (by rw [← ep] at p2 ⊢; exact p2)))
def sp_law_history (K : PySem.W.Frag) (A : Ad) : Sp := fun vs H Q _ => ∃ (a r pa z zs : Addr) (ns : List Int) (m : PlM) (F : Addr → Prop) (S : Tb) (cs : List Int), vs = [.ref a, .ref r, .int m.length, .ref zs] ∧ RoomAt A H r pa z m F S cs ∧ H a = some (.lst (ns.map V.int)) ∧ ¬ F a ∧ H zs = some (.lst (m.sizes.map V.int)) ∧ ¬ F zs ∧ thingsOf m S = [] ∧ Iv m S ∧
  ∀ o H' F' S' cs' out', H o = none → Wd A H' r pa z m F' S' cs' o out' → Stp F H F' H' → Q (.ref o) H'
section
variable {P : Program} {w : World} {K : PySem.W.Frag} {mg : Str → Option Value} {base : Heap} {A : Ad}
end
end Sb
namespace Sb
open PySem PySem.Spec PyProof.Rows L2
/-! ### what is out on one page -/
def thereL (L : Nat) (out : List (Nat × Nat)) (q : Nat) : List Nat := (out.filter fun p => decide (p.1 / L = q)).map (·.2)
theorem outs_len (l : List Bool) : ((List.range l.length).filter fun k => l.getD k false).length = cnt l := by
  have key : ∀ n, n ≤ l.length → ((List.range n).filter fun k => l.getD k false).length = (l.take n).count true := by
    intro n
    induction n with
    | zero => intro _; simp
    | succ n ih =>
      intro hn
      have h1 := ih (by omega)
      obtain ⟨b, hb⟩ : ∃ b, l[n]? = some b := ⟨_, List.getElem?_eq_getElem (by omega)⟩
      have eg : l.getD n false = b := by rw [List.getD_eq_getElem?_getD, hb]; rfl
      rw [List.range_succ, List.filter_append, List.length_append, h1, List.take_succ, hb, List.count_append]
      cases b
      · simp only [List.filter, eg]; rfl
      · simp only [List.filter, eg]; rfl
  have := key l.length (Nat.le_refl _)
  rw [List.take_length] at this
  exact this
theorem filter_flat {β : Type} {f : Nat → List β} {p : β → Bool} {q : Nat} : ∀ {l : List Nat}, l.Nodup → (∀ i ∈ l, ∀ y ∈ f i, p y = decide (i = q)) → (l.flatMap f).filter p = if q ∈ l then f q else []
  | [], _, _ => rfl
  | a :: l, nd, h => by
    obtain ⟨n1, n2⟩ := List.nodup_cons.mp nd
    rw [List.flatMap_cons, List.filter_append, filter_flat n2 fun i hi => h i (List.mem_cons_of_mem _ hi)]
    by_cases e : a = q
    · subst e
      rw [if_neg n1, if_pos List.mem_cons_self, List.append_nil]
      exact List.filter_eq_self.mpr fun y hy => by rw [h a List.mem_cons_self y hy]; simp
    · have : (f a).filter p = [] := List.filter_eq_nil_iff.mpr fun y hy => by rw [h a List.mem_cons_self y hy]; simp [e]
      rw [this, List.nil_append]
      by_cases hq : q ∈ l
      · rw [if_pos hq, if_pos (List.mem_cons_of_mem _ hq)]
      · rw [if_neg hq, if_neg (fun z => by rcases List.mem_cons.mp z with z | z; exact e z.symm; exact hq z)]
theorem there_things {m : PlM} {S : Tb} {q : Nat} (hm : m.Ok) (ok : SOk m S) : thereL m.L (thingsOf m S) q = match S q with
    | some x => List.replicate (cnt x.tk) x.z
    | none => [] := by
  have key : ∀ i ∈ pgs S m.n, ∀ y ∈ thingsOn m S i (m.L / (sfOf S i).z), decide (y.1 / m.L = q) = decide (i = q) := fun i hi y hy => by
    obtain ⟨x, hx⟩ := Option.isSome_iff_exists.mp (mem_pgs.mp hi).2
    obtain ⟨a1, a2, a3⟩ := ok i x hx
    unfold thingsOn at hy
    rw [sfOf_at hx] at hy
    obtain ⟨j, hj, rfl⟩ := List.mem_map.mp hy
    have hj2 := List.mem_range.mp (List.mem_filter.mp hj).1
    dsimp only
    rw [(page_of (i := i) (hm.zr a2).1 hj2).1]
  unfold thereL thingsOf
  rw [filter_flat (nodup_lt (pgs_lt _ _)) key]
  cases e : S q with
  | none =>
    rw [if_neg (fun h => by have := (mem_pgs.mp h).2; rw [e] at this; cases this)]; rfl
  | some x =>
    obtain ⟨a1, a2, a3⟩ := ok q x e
    rw [if_pos (mem_pgs.mpr ⟨a1, by rw [e]; rfl⟩)]
    unfold thingsOn
    rw [sfOf_at e, List.map_map]
    dsimp only
    have : (List.map ((fun x => x.2) ∘ fun j => (q * m.L + j * x.z, x.z)) ((List.range (m.L / x.z)).filter fun j => x.tk.getD j false)) = List.replicate (((List.range (m.L / x.z)).filter fun j => x.tk.getD j false)).length x.z := by
      rw [List.eq_replicate_iff]
      refine ⟨List.length_map _, fun b hb => ?_⟩
      obtain ⟨j, _, rfl⟩ := List.mem_map.mp hb
      rfl
    rw [this, ← a3, outs_len]
theorem there_out {m : PlM} {S : Tb} {q : Nat} {out : List (Nat × Nat)} (hm : m.Ok) (ok : SOk m S) (h : out.Perm (thingsOf m S)) : thereL m.L out q = match S q with
    | some x => List.replicate (cnt x.tk) x.z
    | none => [] := by
  have h1 : (thereL m.L out q).Perm (thereL m.L (thingsOf m S) q) := (h.filter _).map _
  rw [there_things hm ok] at h1
  cases e : S q with
  | none => rw [e] at h1; exact List.perm_nil.mp h1
  | some x => rw [e] at h1; exact List.perm_replicate.mp h1
end Sb
namespace Sb
open PySem PySem.Spec PyProof.Rows L2
theorem cut_from (l : List V) (n : Nat) : cutV l (some (n : Int)) none = l.drop n := by
  unfold cutV
  rw [HT.sIx_none, HT.sIx_nat]
  rcases Nat.le_total n l.length with h | h
  · rw [Nat.min_eq_left h, List.take_of_length_le (by rw [List.length_drop]; exact Nat.le_refl _)]
  · rw [Nat.min_eq_right h, List.drop_length, List.drop_eq_nil_of_le h]; simp
theorem base_step {Hb H H' : Hp} {F F' : Addr → Prop} {o : Addr} (sb : Same Hb H) (fb : ∀ a, F a → Hb a = none) (ob : Hb o = none) (st : StpO o F H F' H') : Same Hb H' ∧ ∀ a, F' a → Hb a = none := by
  refine ⟨fun b u e => st.1 b u (sb b u e) (fun h => by rw [fb b h] at e; cases e) (ne_of_none e ob), fun a h => ?_⟩
  rcases st.2 a h with h | h
  · exact fb a h
  · cases q : Hb a with
    | none => rfl
    | some u => rw [sb _ _ q] at h; cases h
theorem base_stepR {Hb H H' : Hp} {F F' : Addr → Prop} (sb : Same Hb H) (fb : ∀ a, F a → Hb a = none) (st : Stp F H F' H') : Same Hb H' ∧ ∀ a, F' a → Hb a = none := by
  refine ⟨fun b u e => st.1 b u (sb b u e) (fun h => by rw [fb b h] at e; cases e), fun a h => ?_⟩
  rcases st.2 a h with h | h
  · exact fb a h
  · cases q : Hb a with
    | none => rfl
    | some u => rw [sb _ _ q] at h; cases h
/-- what the law's first two lines make: the plan drawn, and a room by it -/
theorem plan_made {A : Ad} {H1 H3 : Hp} {m : PlM} {p dp q2 : Addr} (mok : m.Ok) (h : ∀ b o, (upd (upd (upd H1 q2 (.lst (m.sizes.map V.int))) dp (.own p)) p (.ins A.Plan dp [])) b = some o → b ≠ p → H3 b = some o) (hq2 : H1 q2 = none) (np : (upd H1 q2 (.lst (m.sizes.map V.int))) p = none) (ndp : (upd H1 q2 (.lst (m.sizes.map V.int))) dp = none) : Same H1 H3 := by
  intro b o e
  have n1 := ne_of_none e hq2
  have e1 : (upd H1 q2 (.lst (m.sizes.map V.int))) b = some o := by rw [upd_ne n1]; exact e
  have n2 := ne_of_none e1 np
  have n3 := ne_of_none e1 ndp
  exact h b o (by rw [upd_ne n2, upd_ne n3]; exact e1) n2
theorem tk_triples {K : PySem.W.Frag} {H : Hp} {q : Addr} {l : List (Nat × Nat × Nat)} (h : TupT H q l) : Dp K H (.ref q) (.list (l.map fun p => .tuple [.int p.1, .int p.2.1, .int p.2.2])) := by
  obtain ⟨ts, h1, h2⟩ := h
  refine .lst (SqL.of h1) ?_
  have key : ∀ (ts : List Addr) (l : List (Nat × Nat × Nat)), ts.map H = (l.map tripV).map (fun r => some (HO.tup r)) → DpAll K H (ts.map V.ref) (l.map fun p => .tuple [.int p.1, .int p.2.1, .int p.2.2]) := by
    intro ts
    induction ts with
    | nil =>
      intro l h
      cases l with
      | nil => exact .nil
      | cons p l => cases h
    | cons t ts ih =>
      intro l h
      cases l with
      | nil => cases h
      | cons p l =>
        rw [List.map_cons, List.map_cons, List.map_cons] at h
        injection h with h1 h2
        exact .cons (.tup (.inl (.inl h1)) (.cons (.int _) (.cons (.int _) (.cons (.int _) .nil)))) (ih l h2)
  exact key ts l h2
def tripD (p : Nat × Nat × Nat) : PyData := .tuple [.int p.1, .int p.2.1, .int p.2.2]
theorem dp_trips {K : PySem.W.Frag} {H : Hp} {q : Addr} {l : List (Nat × Nat × Nat)} (h : TupT H q l) : Dp K H (.ref q) (.list (l.map tripD)) := tk_triples h
theorem sh_trips (l : List (Nat × Nat × Nat)) : Shp (.list (l.map tripD)) 2 := .list fun d hd => by
  obtain ⟨p, _, rfl⟩ := List.mem_map.mp hd
  refine .tuple fun d hd => ?_
  simp only [List.mem_cons, List.mem_nil_iff, or_false] at hd
  rcases hd with rfl | rfl | rfl <;> exact .int _
theorem dp_nats {K : PySem.W.Frag} {H : Hp} {q : Addr} {l : List Nat} (h : H q = some (.lst (nV l))) : Dp K H (.ref q) (dInts (castI l)) := dp_ints (SqL.of (by rw [castI_V]; exact h))
/-- a copy of a list of tuples -/
theorem TupL.copy {H : Hp} {q p : Addr} {rows : List (List V)} {xs : List V} (h : TupL H q rows) (hx : H q = some (.lst xs)) (hp : H p = none) : TupL (upd H p (.lst xs)) p rows := by
  obtain ⟨ts, h1, h2⟩ := h
  rw [h1] at hx
  injection hx with hx
  injection hx with hx
  subst hx
  exact ⟨ts, upd_same, map_keep h2 fun t r _ e => sm_n hp _ _ e⟩
end Sb
namespace Sb
open PySem PySem.Spec PyProof.Rows L2
/-! ### what is written, place by place -/
theorem getD_set (cs : List Int) (i x : Nat) (v : Int) (hi : i < cs.length) : (cs.set i v).getD x 0 = if x = i then v else cs.getD x 0 := by
  rw [List.getD_eq_getElem?_getD, List.getD_eq_getElem?_getD]
  by_cases h : x = i
  · subst h
    rw [List.getElem?_set_self hi, if_pos rfl]; rfl
  · rw [List.getElem?_set_ne (fun e => h e.symm), if_neg h]
theorem zrs_get (cs : List Int) (p x : Nat) : ∀ k, p + k ≤ cs.length → (zrs cs p k).getD x 0 = if p ≤ x ∧ x < p + k then 0 else cs.getD x 0
  | 0, _ => by
    rw [if_neg (by omega)]; rfl
  | k + 1, h => by
    rw [zrs_succ, getD_set _ _ _ _ (by rw [zrs_len]; omega), zrs_get cs p x k (by omega)]
    by_cases e : x = p + k
    · rw [if_pos e, if_pos (by omega)]
    · rw [if_neg e]
      by_cases e2 : p ≤ x ∧ x < p + k
      · rw [if_pos e2, if_pos (by omega)]
      · rw [if_neg e2, if_neg (by omega)]
theorem cpy_get (cs : List Int) (a b x : Nat) : ∀ k, b + k ≤ cs.length → (a + k ≤ b ∨ b + k ≤ a) → (cpy cs a b k).getD x 0 = if b ≤ x ∧ x < b + k then cs.getD (a + (x - b)) 0 else cs.getD x 0
  | 0, _, _ => by
    rw [if_neg (by omega)]; rfl
  | k + 1, h, hd => by
    have ih := fun y => cpy_get cs a b y k (by omega) (by omega)
    rw [cpy_succ, getD_set _ _ _ _ (by rw [cpy_len]; omega), ih x, ih (a + k)]
    by_cases e : x = b + k
    · rw [if_pos e, if_neg (show ¬ (b ≤ a + k ∧ a + k < b + k) by omega), if_pos (show b ≤ x ∧ x < b + (k + 1) by omega), e, Nat.add_sub_cancel_left]
    · rw [if_neg e]
      by_cases e2 : b ≤ x ∧ x < b + k
      · rw [if_pos e2, if_pos (by omega)]
      · rw [if_neg e2, if_neg (by omega)]
end Sb
namespace Sb
open PySem PySem.Spec PyProof.Rows L2
/-! ### in which order things are moved, and how many -/
theorem ff_before : ∀ {l : List Bool} {j : Nat}, ff l = some j → ∀ i, i < j → l[i]? = some true
  | true :: l, j, h, i, hi => by
    simp only [ff] at h
    cases e : ff l with
    | none => rw [e] at h; cases h
    | some j' =>
      rw [e] at h
      have hj : j' + 1 = j := Option.some.inj h
      cases i with
      | zero => rfl
      | succ i => exact ff_before e i (by omega)
  | false :: l, j, h, i, hi => by
    simp only [ff] at h
    have hj : 0 = j := Option.some.inj h
    omega
theorem full_all : ∀ {l : List Bool}, ¬ cnt l < l.length → ∀ i, i < l.length → l[i]? = some true
  | b :: l, h, i, hi => by
    have hle := cnt_le l
    cases b with
    | false => exfalso; apply h; simp [cnt, List.count_cons]; exact Nat.lt_succ_of_le hle
    | true =>
      have h2 : ¬ cnt l < l.length := fun q => h (by simp [cnt, List.count_cons] at q ⊢; omega)
      cases i with
      | zero => rfl
      | succ i => exact full_all h2 i (by simpa using hi)
/-- pages that come earlier than the one found have no free slot -/
theorem find_before {p : Nat → Bool} {g : Nat} : ∀ {l : List Nat}, l.Pairwise (· < ·) → l.find? p = some g → ∀ q ∈ l, q < g → p q = false
  | a :: l, pw, h, q, hq, hlt => by
    obtain ⟨p1, p2⟩ := List.pairwise_cons.mp pw
    by_cases ha : p a = true
    · rw [List.find?_cons_of_pos ha] at h
      obtain rfl := Option.some.inj h
      rcases List.mem_cons.mp hq with e | hm
      · omega
      · have := p1 q hm; omega
    · rw [List.find?_cons_of_neg ha] at h
      rcases List.mem_cons.mp hq with e | hm
      · rw [e]; simpa using ha
      · exact find_before p2 h q hm hlt
theorem stay_lt (m : PlM) (S : Tb) (k : Nat) : (stayO m S k).Pairwise (· < ·) := (own_lt S m.n k).filter _
structure Ord (m : PlM) (S : Tb) (k : Nat) (lim : Nat) (G : Gs) : Prop where
  src : (G.mv.map (·.1)).Pairwise (· < ·)
  bnd : ∀ x ∈ G.mv, x.1 < lim
  dst : (G.mv.map (·.2)).Pairwise (· < ·)
  full : ∀ x ∈ G.mv, ∀ p ∈ stayO m S k, ∀ s, s < m.L / k → p * m.L + s * k ≤ x.2 → Has G.S p s k
/-- the goal of a move lies behind all that is full -/
theorem ord_step {m : PlM} {S : Tb} {k i j g j2 lim : Nat} {G : Gs} (hm : m.Ok) (ok : SOk m S) (hk : (k : Int) ∈ m.sizes) (gp : GP m S k G) (gp' : GP m S k (mvG m k i j g j2 G)) (mv : Mv m S k i j g j2 G) (hi : i ∉ stayO m S k) (o : Ord m S k lim G) (hl : lim ≤ i * m.L + j * k) :
    Ord m S k (i * m.L + j * k + 1) (mvG m k i j g j2 G) := by
  have hz := hm.zr hk
  have hs := mvS_has mv
  obtain ⟨y, hy, yz, hj2⟩ := mv.fr
  have okG := gp.same.ok ok
  have yl : y.tk.length = m.L / k := by rw [(okG g y hy).2.2, yz]
  have j2l : j2 < m.L / k := by rw [← yl]; exact ff_lt hj2
  have keepS : ∀ p ∈ stayO m S k, ∀ s, Has G.S p s k → Has (mvS G.S i j g j2) p s k := fun p hp s h => by
    rw [hs]
    by_cases q : p = g ∧ s = j2
    · rw [if_pos q]
    · rw [if_neg q]; exact ⟨h, fun z => hi (by rw [← z.1]; exact hp)⟩
  have notg : ¬ Has G.S g j2 k := by
    rintro ⟨u, hu, hj, _⟩
    rw [hy] at hu
    obtain rfl := Option.some.inj hu
    rw [ff_at hj2] at hj; cases hj
  have behind : ∀ x ∈ G.mv, x.2 < g * m.L + j2 * k := fun x hx => by
    rcases Nat.lt_or_ge x.2 (g * m.L + j2 * k) with h | h
    · exact h
    · exact absurd (o.full x hx g mv.gs j2 j2l h) notg
  refine ⟨?_, fun x hx => ?_, ?_, fun x hx p hp s hsl hle => ?_⟩
  · show ((G.mv ++ [(i * m.L + j * k, g * m.L + j2 * k)]).map (·.1)).Pairwise (· < ·)
    rw [List.map_append, List.pairwise_append]
    refine ⟨o.src, List.pairwise_singleton _ _, fun a ha b hb => ?_⟩
    obtain ⟨x, hx, rfl⟩ := List.mem_map.mp ha
    have hb' : b = i * m.L + j * k := List.mem_singleton.mp hb
    have := o.bnd x hx
    omega
  · rcases List.mem_append.mp (show x ∈ G.mv ++ [(i * m.L + j * k, g * m.L + j2 * k)] from hx) with hx | hx
    · have := o.bnd x hx; omega
    · rw [List.mem_singleton.mp hx]; exact Nat.lt_succ_self _
  · show ((G.mv ++ [(i * m.L + j * k, g * m.L + j2 * k)]).map (·.2)).Pairwise (· < ·)
    rw [List.map_append, List.pairwise_append]
    refine ⟨o.dst, List.pairwise_singleton _ _, fun a ha b hb => ?_⟩
    obtain ⟨x, hx, rfl⟩ := List.mem_map.mp ha
    have hb' : b = g * m.L + j2 * k := List.mem_singleton.mp hb
    have := behind x hx
    omega
  · show Has (mvS G.S i j g j2) p s k
    rcases List.mem_append.mp (show x ∈ G.mv ++ [(i * m.L + j * k, g * m.L + j2 * k)] from hx) with hx | hx
    · exact keepS p hp s (o.full x hx p hp s hsl hle)
    · rw [List.mem_singleton.mp hx] at hle
      have hle' : p * m.L + s * k ≤ g * m.L + j2 * k := hle
      have ip := in_page (z := k) hz.1 hsl
      have ig := in_page (z := k) hz.1 j2l
      rcases Nat.lt_trichotomy p g with h | h | h
      · refine keepS p hp s ?_
        have hnf := find_before (stay_lt m S k) mv.hf p hp h
        obtain ⟨u, hu, uz, ul⟩ := own_get ok gp.same (stay_own hp)
        unfold hasFree at hnf
        rw [sfOf_at hu] at hnf
        exact ⟨u, hu, full_all (of_decide_eq_false hnf) s (by rw [ul]; exact hsl), uz⟩
      · subst h
        rw [hs]
        by_cases q : s = j2
        · rw [if_pos ⟨rfl, q⟩]
        · rw [if_neg (fun z => q z.2)]
          have hs2 : s < j2 := by
            rcases Nat.lt_or_ge s j2 with h | h
            · exact h
            · exfalso
              have : (j2 + 1) * k ≤ s * k := Nat.mul_le_mul_right k (by omega)
              rw [Nat.succ_mul] at this
              omega
          exact ⟨⟨y, hy, ff_before hj2 s hs2, yz⟩, fun z => mv.ne z.1⟩
      · exfalso
        have : (g + 1) * m.L ≤ p * m.L := Nat.mul_le_mul_right _ h
        rw [Nat.succ_mul] at this
        omega
theorem gath_ord {m : PlM} {S : Tb} {cs : List Int} {k : Nat} (hm : m.Ok) (ok : SOk m S) (hk : (k : Int) ∈ m.sizes) : ((gathG m S cs k).mv.map (·.1)).Pairwise (· < ·) ∧ ((gathG m S cs k).mv.map (·.2)).Pairwise (· < ·) := by
  have hz := hm.zr hk
  have lpw : (leaveO m S k).Pairwise (· < ·) := (own_lt S m.n k).filter _
  have key := gath_ind2 (cs := cs) hm ok hk (fun t j G => ∃ lim, Ord m S k lim G ∧ (∀ i, (leaveO m S k)[t]? = some i → lim ≤ i * m.L + j * k))
    ⟨0, ⟨.nil, (fun _ h => nomatch h), .nil, fun _ h => nomatch h⟩, fun _ _ => Nat.zero_le _⟩
    (fun t i j G ht hj gp ⟨lim, o, hl⟩ hn => ⟨lim, o, fun i' hi' => by
      have := hl i' hi'
      rw [Nat.succ_mul]
      omega⟩)
    (fun t i j g j2 G ht hj gp ⟨lim, o, hl⟩ mv gp' => ⟨_, ord_step hm ok hk gp gp' mv (mem_leave.mp (List.mem_of_getElem? ht)).2 o (hl i ht), fun i' hi' => by
      obtain rfl := Option.some.inj (ht.symm.trans hi')
      rw [Nat.succ_mul]
      have := hz.1
      omega⟩)
    (fun t G ht gp ⟨lim, o, hl⟩ => ⟨lim, o, fun i' hi' => by
      have h1 := hl _ (List.getElem?_eq_getElem ht)
      obtain ⟨h2, h3⟩ := List.getElem?_eq_some_iff.mp hi'
      have h4 := List.pairwise_iff_getElem.mp lpw t (t + 1) ht h2 (Nat.lt_succ_self _)
      rw [h3] at h4
      have h5 : ((leaveO m S k)[t] + 1) * m.L ≤ i' * m.L := Nat.mul_le_mul_right _ h4
      rw [Nat.succ_mul] at h5
      have h6 : m.L / k * k ≤ m.L := Nat.div_mul_le_self _ _
      rw [Nat.zero_mul]
      omega⟩)
  obtain ⟨⟨lim, o, _⟩, _⟩ := key
  exact ⟨o.src, o.dst⟩
end Sb
namespace Sb
open PySem PySem.Spec PyProof.Rows L2
theorem cnt_ex : ∀ {l : List Bool}, 0 < cnt l → ∃ j : Nat, l[j]? = some true
  | [], h => absurd h (Nat.lt_irrefl _)
  | true :: l, _ => ⟨0, rfl⟩
  | false :: l, h => by
    have h1 : 0 < cnt l := by simpa [cnt, List.count_cons] using h
    obtain ⟨j, hj⟩ := cnt_ex h1
    exact ⟨j + 1, hj⟩
theorem sumC_le0 {S : Tb} : ∀ {l : List Nat}, (∀ i ∈ l, cn S i = 0) → sumC S l = 0
  | [], _ => rfl
  | a :: l, h => by
    have e1 : sumC S (a :: l) = cn S a + sumC S l := rfl
    rw [e1, h a List.mem_cons_self, sumC_le0 fun i hi => h i (List.mem_cons_of_mem _ hi)]
/-- how many are moved -/
theorem gath_len {m : PlM} {S : Tb} {cs : List Int} {k : Nat} (hm : m.Ok) (ok : SOk m S) (hk : (k : Int) ∈ m.sizes) : sumC S (stayO m S k) + (gathG m S cs k).mv.length = sumC S (own S m.n k) := by
  have snd := nodup_lt (stay_lt m S k)
  have key := gath_ind2 (cs := cs) hm ok hk (fun t j G => sumC G.S (stayO m S k) = sumC S (stayO m S k) + G.mv.length) rfl (fun t i j G ht hj gp hp hn => hp) (fun t i j g j2 G ht hj gp hp mv gp' => ?_) (fun t G ht gp hp => hp)
  · obtain ⟨h1, gp⟩ := key
    obtain ⟨_, _, _, h4, h5⟩ := gath_things (cs := cs) (out := thingsOf m S) hm ok hk (List.Perm.refl _)
    have sp := sumC_split (gathG m S cs k).S (fun i => decide (i ∈ (rankedL S (own S m.n k)).take (needL S (own S m.n k) (m.L / k)))) (own S m.n k)
    have e1 : (own S m.n k).filter (fun i => decide (i ∈ (rankedL S (own S m.n k)).take (needL S (own S m.n k) (m.L / k)))) = stayO m S k := rfl
    rw [e1] at sp
    have e2 : sumC (gathG m S cs k).S ((own S m.n k).filter fun i => !(decide (i ∈ (rankedL S (own S m.n k)).take (needL S (own S m.n k) (m.L / k))))) = 0 := by
      have hle := sumC_le0 (S := (gathG m S cs k).S) (l := (own S m.n k).filter fun i => !(decide (i ∈ (rankedL S (own S m.n k)).take (needL S (own S m.n k) (m.L / k))))) fun i hi => by
        obtain ⟨a1, a2⟩ := List.mem_filter.mp hi
        have hil : i ∈ leaveO m S k := mem_leave.mpr ⟨a1, fun hs => by
          have h6 := (List.mem_filter.mp hs).2
          rw [h6] at a2; cases a2⟩
        obtain ⟨y, hy, yz, _⟩ := own_get ok gp.same a1
        rw [cn_at hy]
        rcases Nat.eq_zero_or_pos (cnt y.tk) with h | h
        · exact h
        · obtain ⟨j, hj⟩ := cnt_ex h
          exact absurd ⟨y, hy, hj, rfl⟩ (h4 i hil j y.z)
      exact hle
    omega
  · obtain ⟨x, hx, hj', xz⟩ := mv.has
    obtain ⟨y, hy, yz, hj2⟩ := mv.fr
    have hi := (mem_leave.mp (List.mem_of_getElem? ht)).2
    show sumC (mvS G.S i j g j2) (stayO m S k) = sumC S (stayO m S k) + (G.mv ++ [_]).length
    unfold mvS
    rw [sfOf_at hx, sfOf_at hy]
    have a1 := (sumC_upd (S := G.S) (g := g) (y := ⟨y.z, y.tk.set j2 true⟩) snd).1 mv.gs
    have a2 := (sumC_upd (S := updT G.S g (some ⟨y.z, y.tk.set j2 true⟩)) (g := i) (y := ⟨x.z, x.tk.set j false⟩) snd).2 hi
    have c1 : cn G.S g = cnt y.tk := cn_at hy
    have c3 := cnt_set_true (ff_at hj2)
    rw [a2, List.length_append, List.length_singleton]
    dsimp only at a1
    omega
end Sb
namespace Sb
open PySem PySem.Spec PyProof.Rows L2
/-! ### how many are needed at the least, by the law's own counts -/
def cO (S : Tb) (k q : Nat) : Nat := match S q with
  | some x => if x.z = k then cnt x.tk else 0
  | none => 0
theorem cO_own {S : Tb} {n k q : Nat} (h : q ∈ own S n k) : cO S k q = cn S q := by
  obtain ⟨_, x, hx, hz⟩ := mem_own.mp h
  unfold cO cn
  rw [hx]
  exact if_pos hz
theorem cO_not {S : Tb} {n k q : Nat} (hq : q < n) (h : q ∉ own S n k) : cO S k q = 0 := by
  unfold cO
  cases e : S q with
  | none => rfl
  | some x => exact if_neg fun hz => h (mem_own.mpr ⟨hq, x, e, hz⟩)
theorem own_range (S : Tb) (n k : Nat) : own S n k = (List.range n).filter fun q => decide (q ∈ own S n k) := by
  refine eq_lt (own_lt S n k) (List.pairwise_lt_range.filter _) fun i => ?_
  rw [List.mem_filter, List.mem_range, decide_eq_true_eq]
  exact ⟨fun h => ⟨(mem_own.mp h).1, h⟩, fun h => h.2⟩
theorem counts_perm (S : Tb) (n k : Nat) : ((List.range n).map (cO S k)).Perm ((rankedL S (own S n k)).map (cn S) ++ List.replicate ((List.range n).filter fun q => !(decide (q ∈ own S n k))).length 0) := by
  have h1 : ((List.range n).filter (fun q => decide (q ∈ own S n k)) ++ (List.range n).filter (fun q => !(decide (q ∈ own S n k)))).Perm (List.range n) := List.filter_append_perm _ _
  have h2 := (h1.symm.map (cO S k))
  rw [List.map_append, ← own_range] at h2
  have e1 : (own S n k).map (cO S k) = (own S n k).map (cn S) := List.map_congr_left fun q hq => cO_own hq
  have e2 : ((List.range n).filter fun q => !(decide (q ∈ own S n k))).map (cO S k) = List.replicate ((List.range n).filter fun q => !(decide (q ∈ own S n k))).length 0 := by
    rw [List.eq_replicate_iff]
    refine ⟨List.length_map _, fun b hb => ?_⟩
    obtain ⟨q, hq, rfl⟩ := List.mem_map.mp hb
    obtain ⟨a1, a2⟩ := List.mem_filter.mp hq
    refine cO_not (n := n) (List.mem_range.mp a1) fun h => ?_
    rw [decide_eq_true h] at a2; cases a2
  rw [e1, e2] at h2
  exact h2.trans (List.Perm.append ((ranked_perm S (own S n k)).symm.map _) (List.Perm.refl _))
theorem counts_sum (S : Tb) (n k : Nat) : ((List.range n).map (cO S k)).sum = sumC S (own S n k) := by
  rw [(counts_perm S n k).sum_nat, List.sum_append]
  have : (List.replicate ((List.range n).filter fun q => !(decide (q ∈ own S n k))).length 0).sum = 0 := by simp
  rw [this, Nat.add_zero]
  exact ((ranked_perm S (own S n k)).map _).sum_nat
theorem sumC_leN {S : Tb} {k : Nat} : ∀ {l : List Nat}, (∀ i ∈ l, cn S i ≤ k) → sumC S l ≤ l.length * k
  | [], _ => by simp [sumC]
  | a :: l, h => by
    have e1 : sumC S (a :: l) = cn S a + sumC S l := rfl
    have h1 := h a List.mem_cons_self
    have h2 := sumC_leN (S := S) (k := k) (l := l) fun i hi => h i (List.mem_cons_of_mem _ hi)
    rw [e1, List.length_cons, Nat.succ_mul]
    omega
/-- sorted from above, cut at as many as are needed: the things on the pages that stay -/
theorem counts_take {m : PlM} {S : Tb} {k : Nat} (hm : m.Ok) (ok : SOk m S) (hk : (k : Int) ∈ m.sizes) {ys : List Int} (hp : ys.Perm (castI ((List.range m.n).map (cO S k)))) (hs : ys.Pairwise (· ≥ ·)) :
    (ys.take (needL S (own S m.n k) (m.L / k))).sum = ((sumC S (stayO m S k) : Nat) : Int) := by
  have hz := hm.zr hk
  have hp1 := per1 hz.1 hz.2
  have e : ys = castI ((rankedL S (own S m.n k)).map (cn S) ++ List.replicate ((List.range m.n).filter fun q => !(decide (q ∈ own S m.n k))).length 0) := by
    refine eq_srt (R := fun a b : Int => a ≥ b) (fun a b h1 h2 => by omega) hs ?_ (hp.trans ((counts_perm S m.n k).map _))
    refine List.pairwise_map.mpr ?_
    rw [List.pairwise_append]
    refine ⟨List.pairwise_map.mpr ((ranked_pw S (own S m.n k)).imp fun {a b} h => ?_), ?_, fun a _ b hb => ?_⟩
    · rw [rkLe_iff] at h
      show ((cn S a : Nat) : Int) ≥ ((cn S b : Nat) : Int)
      omega
    · rw [List.pairwise_replicate]; exact .inr (Int.le_refl _)
    · rw [(List.mem_replicate.mp hb).2]
      show ((a : Nat) : Int) ≥ ((0 : Nat) : Int)
      omega
  have nl : needL S (own S m.n k) (m.L / k) ≤ (rankedL S (own S m.n k)).length := by
    rw [(ranked_perm S (own S m.n k)).length_eq]
    have hT : sumC S (own S m.n k) ≤ (own S m.n k).length * (m.L / k) := sumC_leN fun q hq => by
      obtain ⟨y, hy, _, yl⟩ := own_get ok (SameSh.refl S) hq
      rw [cn_at hy, ← yl]
      exact cnt_le _
    unfold needL
    have h1 : sumC S (own S m.n k) + m.L / k - 1 < ((own S m.n k).length + 1) * (m.L / k) := by
      rw [Nat.succ_mul]
      omega
    have := (Nat.div_lt_iff_lt_mul hp1).mpr h1
    omega
  rw [e]
  unfold castI
  rw [List.map_append, List.take_append_of_le_length (by rw [List.length_map, List.length_map]; exact nl), List.map_map, ← List.map_take]
  have h3 := sum_cast S ((rankedL S (own S m.n k)).take (needL S (own S m.n k) (m.L / k)))
  have h4 : sumC S ((rankedL S (own S m.n k)).take (needL S (own S m.n k) (m.L / k))) = sumC S (stayO m S k) := by
    unfold sumC
    exact ((stay_perm (S := S) (k := m.L / k) (own_lt S m.n k)).symm.map _).sum_nat
  rw [← h4, ← h3]
  rfl
end Sb
namespace Sb
open PySem PySem.Spec PyProof.Rows L2
/-! ### a second gathering -/
theorem need_le {m : PlM} {S : Tb} {k : Nat} (hm : m.Ok) (ok : SOk m S) (hk : (k : Int) ∈ m.sizes) : needL S (own S m.n k) (m.L / k) ≤ (own S m.n k).length := by
  have hz := hm.zr hk
  have hp1 := per1 hz.1 hz.2
  have hT : sumC S (own S m.n k) ≤ (own S m.n k).length * (m.L / k) := sumC_leN fun q hq => by
    obtain ⟨y, hy, _, yl⟩ := own_get ok (SameSh.refl S) hq
    rw [cn_at hy, ← yl]
    exact cnt_le _
  unfold needL
  have h1 : sumC S (own S m.n k) + m.L / k - 1 < ((own S m.n k).length + 1) * (m.L / k) := by
    rw [Nat.succ_mul]
    omega
  have := (Nat.div_lt_iff_lt_mul hp1).mpr h1
  omega
theorem gathS_at {m : PlM} {S : Tb} {cs : List Int} {k q : Nat} : gathS m S cs k q = if q ∈ leaveO m S k then none else (gathG m S cs k).S q := dropAll_at _ _ _
/-- of the shelves of the size just those stay -/
theorem own_gath {m : PlM} {S : Tb} {cs : List Int} {k : Nat} (hm : m.Ok) (ok : SOk m S) (hk : (k : Int) ∈ m.sizes) : own (gathS m S cs k) m.n k = stayO m S k := by
  obtain ⟨_, _, same, _, _⟩ := gath_things (cs := cs) (out := thingsOf m S) hm ok hk (List.Perm.refl _)
  refine eq_lt (own_lt _ _ _) (stay_lt _ _ _) fun q => ?_
  rw [mem_own]
  constructor
  · rintro ⟨hq, x, hx, hz⟩
    rw [gathS_at] at hx
    by_cases hl : q ∈ leaveO m S k
    · rw [if_pos hl] at hx; cases hx
    · rw [if_neg hl] at hx
      have h1 := same.some_ q
      rw [hx] at h1
      obtain ⟨y, hy⟩ := Option.isSome_iff_exists.mp h1.symm
      have h2 := same.z q
      rw [sfOf_at hx, sfOf_at hy, hz] at h2
      exact Classical.byContradiction fun h => hl (mem_leave.mpr ⟨mem_own.mpr ⟨hq, y, hy, h2.symm⟩, h⟩)
  · intro hs
    have ho := stay_own hs
    obtain ⟨y, hy, yz, _⟩ := own_get ok same ho
    refine ⟨(mem_own.mp ho).1, y, ?_, yz⟩
    rw [gathS_at, if_neg (fun h => (mem_leave.mp h).2 hs)]
    exact hy
theorem cn_gath {m : PlM} {S : Tb} {cs : List Int} {k q : Nat} (h : q ∉ leaveO m S k) : cn (gathS m S cs k) q = cn (gathG m S cs k).S q := by
  unfold cn
  rw [gathS_at, if_neg h]
theorem gath_twice {m : PlM} {S : Tb} {cs cs2 : List Int} {k : Nat} (hm : m.Ok) (ok : SOk m S) (hk : (k : Int) ∈ m.sizes) : leaveO m (gathS m S cs k) k = [] := by
  obtain ⟨_, _, same, hl, hsum⟩ := gath_things (cs := cs) (out := thingsOf m S) hm ok hk (List.Perm.refl _)
  have eo := own_gath (cs := cs) hm ok hk
  have hz := hm.zr hk
  have hp1 := per1 hz.1 hz.2
  -- the same things, on as many shelves as are needed
  have es : sumC (gathS m S cs k) (stayO m S k) = sumC S (own S m.n k) := by
    have e1 : sumC (gathS m S cs k) (stayO m S k) = sumC (gathG m S cs k).S (stayO m S k) := by
      unfold sumC
      congr 1
      exact List.map_congr_left fun q hq => cn_gath fun h => (mem_leave.mp h).2 hq
    rw [e1, ← hsum]
    have sp := sumC_split (gathG m S cs k).S (fun i => decide (i ∈ (rankedL S (own S m.n k)).take (needL S (own S m.n k) (m.L / k)))) (own S m.n k)
    have e2 : (own S m.n k).filter (fun i => decide (i ∈ (rankedL S (own S m.n k)).take (needL S (own S m.n k) (m.L / k)))) = stayO m S k := rfl
    rw [e2] at sp
    have e3 : sumC (gathG m S cs k).S ((own S m.n k).filter fun i => !(decide (i ∈ (rankedL S (own S m.n k)).take (needL S (own S m.n k) (m.L / k))))) = 0 := sumC_le0 fun i hi => by
      obtain ⟨a1, a2⟩ := List.mem_filter.mp hi
      have hil : i ∈ leaveO m S k := mem_leave.mpr ⟨a1, fun hs => by
        have h6 := (List.mem_filter.mp hs).2
        rw [h6] at a2; cases a2⟩
      obtain ⟨y, hy, yz, _⟩ := own_get ok same a1
      rw [cn_at hy]
      rcases Nat.eq_zero_or_pos (cnt y.tk) with h | h
      · exact h
      · obtain ⟨j, hj⟩ := cnt_ex h
        exact absurd ⟨y, hy, hj, rfl⟩ (hl i hil j y.z)
    omega
  have en : needL (gathS m S cs k) (own (gathS m S cs k) m.n k) (m.L / k) = (own (gathS m S cs k) m.n k).length := by
    rw [eo]
    unfold needL
    rw [es]
    have h1 := stay_len (S := S) (k := m.L / k) (own_lt S m.n k)
    rw [Nat.min_eq_left (need_le hm ok hk)] at h1
    exact h1.symm
  have hall : ∀ i, i ∈ own (gathS m S cs k) m.n k → i ∈ stayO m (gathS m S cs k) k := fun i hi => by
    refine (stay_perm (own_lt _ _ _)).mem_iff.mpr ?_
    rw [en, List.take_of_length_le (by rw [(ranked_perm _ _).length_eq]; exact Nat.le_refl _)]
    exact (ranked_perm _ _).mem_iff.mpr hi
  unfold leaveO
  exact List.filter_eq_nil_iff.mpr fun i hi h => (of_decide_eq_true h) (hall i hi)
theorem gath_again {m : PlM} {S : Tb} {cs : List Int} {k : Nat} (h : leaveO m S k = []) : gathG m S cs k = ⟨S, cs, []⟩ ∧ gathS m S cs k = S := by
  have e : gathG m S cs k = ⟨S, cs, []⟩ := by unfold gathG; rw [h]; rfl
  refine ⟨e, ?_⟩
  unfold gathS
  rw [h, e]; rfl
end Sb
namespace Sb
open PySem PySem.Spec PyProof.Rows L2
/-! ### where a thing is behind a gathering, and what it holds -/
def behindN : List (Nat × Nat) → Nat → Nat
  | [], p => p
  | x :: r, p => if x.1 = p then x.2 else behindN r p
theorem behind_no {p : Nat} : ∀ {mv : List (Nat × Nat)}, (∀ x ∈ mv, x.1 ≠ p) → behindN mv p = p
  | [], _ => rfl
  | x :: r, h => by
    unfold behindN
    rw [if_neg (h x List.mem_cons_self)]
    exact behind_no fun y hy => h y (List.mem_cons_of_mem _ hy)
theorem behind_snoc_no {p : Nat} {x : Nat × Nat} : ∀ {mv : List (Nat × Nat)}, (∀ y ∈ mv, y.1 ≠ p) → behindN (mv ++ [x]) p = if x.1 = p then x.2 else p
  | [], _ => rfl
  | y :: r, h => by
    show behindN (y :: (r ++ [x])) p = _
    unfold behindN
    rw [if_neg (h y List.mem_cons_self)]
    exact behind_snoc_no fun y hy => h y (List.mem_cons_of_mem _ hy)
theorem behind_snoc_ne {p : Nat} {x : Nat × Nat} (hx : x.1 ≠ p) : ∀ {mv : List (Nat × Nat)}, behindN (mv ++ [x]) p = behindN mv p
  | [] => by show behindN [x] p = p; unfold behindN; rw [if_neg hx]; rfl
  | y :: r => by
    show behindN (y :: (r ++ [x])) p = _
    unfold behindN
    rw [behind_snoc_ne hx]
theorem behind_or (mv : List (Nat × Nat)) (p : Nat) : (behindN mv p = p ∧ ∀ x ∈ mv, x.1 ≠ p) ∨ ∃ x ∈ mv, x.1 = p ∧ behindN mv p = x.2 := by
  induction mv with
  | nil => exact .inl ⟨rfl, (fun _ h => nomatch h)⟩
  | cons x r ih =>
    unfold behindN
    by_cases h : x.1 = p
    · rw [if_pos h]; exact .inr ⟨x, List.mem_cons_self, h, rfl⟩
    · rw [if_neg h]
      rcases ih with ⟨h1, h2⟩ | ⟨y, h1, h2, h3⟩
      · refine .inl ⟨h1, fun y hy => ?_⟩
        rcases List.mem_cons.mp hy with e | hy
        · rw [e]; exact h
        · exact h2 y hy
      · exact .inr ⟨y, List.mem_cons_of_mem _ h1, h2, h3⟩
theorem pages_apart {L i j z i' j' z' : Nat} (hz : 1 ≤ z) (hj : j < L / z) (hz' : 1 ≤ z') (hj' : j' < L / z') (n : i ≠ i') : i * L + j * z + z ≤ i' * L + j' * z' ∨ i' * L + j' * z' + z' ≤ i * L + j * z := by
  have h1 := in_page hz hj
  have h2 := in_page hz' hj'
  rcases Nat.lt_or_gt_of_ne n with h | h
  · left
    have : (i + 1) * L ≤ i' * L := Nat.mul_le_mul_right _ h
    rw [Nat.succ_mul] at this
    omega
  · right
    have : (i' + 1) * L ≤ i * L := Nat.mul_le_mul_right _ h
    rw [Nat.succ_mul] at this
    omega
theorem slots_apart {m : PlM} {S : Tb} (hm : m.Ok) (ok : SOk m S) {i j z i' j' z' : Nat} (h : Has S i j z) (h' : Has S i' j' z') (n : ¬ (i = i' ∧ j = j')) : i * m.L + j * z + z ≤ i' * m.L + j' * z' ∨ i' * m.L + j' * z' + z' ≤ i * m.L + j * z := by
  obtain ⟨_, a2, a3⟩ := h.lt ok
  obtain ⟨_, b2, b3⟩ := h'.lt ok
  by_cases q : i = i'
  · subst q
    obtain ⟨x, hx, _, hxz⟩ := h
    obtain ⟨y, hy, _, hyz⟩ := h'
    rw [hx] at hy
    obtain rfl := Option.some.inj hy
    subst hxz hyz
    rcases Nat.lt_trichotomy j j' with e | e | e
    · left
      have : (j + 1) * x.z ≤ j' * x.z := Nat.mul_le_mul_right _ e
      rw [Nat.succ_mul] at this
      omega
    · exact absurd ⟨rfl, e⟩ n
    · right
      have : (j' + 1) * x.z ≤ j * x.z := Nat.mul_le_mul_right _ e
      rw [Nat.succ_mul] at this
      omega
  · exact pages_apart (hm.zr a2).1 a3 (hm.zr b2).1 b3 q
/-- things lie apart -/
theorem things_apart {m : PlM} {S : Tb} (hm : m.Ok) (ok : SOk m S) {p z p' z' : Nat} (h : (p, z) ∈ thingsOf m S) (h' : (p', z') ∈ thingsOf m S) (n : p ≠ p') : p + z ≤ p' ∨ p' + z' ≤ p := by
  obtain ⟨i, j, h1, rfl⟩ := (mem_things ok).mp h
  obtain ⟨i', j', h2, rfl⟩ := (mem_things ok).mp h'
  refine slots_apart hm ok h1 h2 fun q => ?_
  obtain ⟨rfl, rfl⟩ := q
  apply n
  rw [← h1.sf, ← h2.sf]
theorem thing_in {m : PlM} {S : Tb} (hm : m.Ok) (ok : SOk m S) {p z : Nat} (h : (p, z) ∈ thingsOf m S) : 1 ≤ z ∧ p + z ≤ m.n * m.L := by
  obtain ⟨i, j, h1, rfl⟩ := (mem_things ok).mp h
  obtain ⟨a1, a2, a3⟩ := h1.lt ok
  have hz := (hm.zr a2).1
  have := plc_lt (t := z - 1) a1 a3 (by omega)
  exact ⟨hz, by omega⟩
theorem has_one {S : Tb} {i j z z' : Nat} (h : Has S i j z) (h' : Has S i j z') : z = z' := by rw [← h.sf, ← h'.sf]
structure Kp (m : PlM) (S : Tb) (k : Nat) (cs : List Int) (G : Gs) : Prop where
  mv : ∀ x ∈ G.mv, (∃ i j, i ∈ leaveO m S k ∧ Has S i j k ∧ x.1 = i * m.L + j * k) ∧ ∃ g j, g ∈ stayO m S k ∧ j < m.L / k ∧ (∀ z, ¬ Has S g j z) ∧ x.2 = g * m.L + j * k
  lv : ∀ i ∈ leaveO m S k, ∀ j z, Has G.S i j z → Has S i j z ∧ ∀ x ∈ G.mv, x.1 ≠ i * m.L + j * z
  st : ∀ i ∈ stayO m S k, ∀ j z, Has S i j z → Has G.S i j z
  ct : ∀ i j z, Has S i j z → ∃ i2 j2, behindN G.mv (i * m.L + j * z) = i2 * m.L + j2 * z ∧ Has G.S i2 j2 z ∧ ∀ t, t < z → G.cs.getD (i2 * m.L + j2 * z + t) 0 = cs.getD (i * m.L + j * z + t) 0
  ln : G.cs.length = cs.length
theorem kp_step {m : PlM} {S : Tb} {k i j g j2 : Nat} {cs : List Int} {G : Gs} (hm : m.Ok) (ok : SOk m S) (hk : (k : Int) ∈ m.sizes) (hc : cs.length = m.n * m.L) (gp : GP m S k G) (gp' : GP m S k (mvG m k i j g j2 G)) (mv : Mv m S k i j g j2 G) (hi : i ∈ leaveO m S k) (o : Kp m S k cs G) : Kp m S k cs (mvG m k i j g j2 G) := by
  have hz := hm.zr hk
  have hs := mvS_has mv
  have ok1 := gp.same.ok ok
  have ok2 := gp'.same.ok ok
  obtain ⟨y, hy, yz, hj2⟩ := mv.fr
  have fr : ∀ z, ¬ Has G.S g j2 z := by
    rintro z ⟨u, hu, hj, _⟩
    rw [hy] at hu
    obtain rfl := Option.some.inj hu
    rw [ff_at hj2] at hj; cases hj
  have hS2 : Has (mvS G.S i j g j2) g j2 k := (hs g j2 k).mpr (by rw [if_pos ⟨rfl, rfl⟩])
  have j2l := (hS2.lt ok2).2.2
  have hil := (mem_leave.mp hi).2
  obtain ⟨hSij, nsrc⟩ := o.lv i hi j k mv.has
  have jl := (hSij.lt ok).2.2
  have gn : g < m.n := (hS2.lt ok2).1
  have clen := gp.same
  refine ⟨fun x hx => ?_, fun i' hi' j' z' h' => ?_, fun i' hi' j' z' h' => ?_, fun i' j' z' h' => ?_, ?_⟩
  · rcases List.mem_append.mp (show x ∈ G.mv ++ [(i * m.L + j * k, g * m.L + j2 * k)] from hx) with hx | hx
    · exact o.mv x hx
    · rw [List.mem_singleton.mp hx]
      exact ⟨⟨i, j, hi, hSij, rfl⟩, g, j2, mv.gs, j2l, fun z h => fr z (o.st g mv.gs j2 z h), rfl⟩
  · have h2 : Has (mvS G.S i j g j2) i' j' z' := h'
    rw [hs] at h2
    have ng : ¬ (i' = g ∧ j' = j2) := fun q => (mem_leave.mp hi').2 (by rw [q.1]; exact mv.gs)
    rw [if_neg ng] at h2
    obtain ⟨h3, h4⟩ := o.lv i' hi' j' z' h2.1
    refine ⟨h3, fun x hx => ?_⟩
    rcases List.mem_append.mp (show x ∈ G.mv ++ [(i * m.L + j * k, g * m.L + j2 * k)] from hx) with hx | hx
    · exact h4 x hx
    · rw [List.mem_singleton.mp hx]
      intro e
      obtain ⟨q1, q2, _⟩ := place_inj hm ok1 mv.has h2.1 e
      exact h2.2 ⟨q1.symm, q2.symm⟩
  · show Has (mvS G.S i j g j2) i' j' z'
    have h3 := o.st i' hi' j' z' h'
    rw [hs]
    by_cases q : i' = g ∧ j' = j2
    · obtain ⟨rfl, rfl⟩ := q
      exact absurd h3 (fr z')
    · rw [if_neg q]
      exact ⟨h3, fun q => hil (by rw [← q.1]; exact hi')⟩
  · obtain ⟨i2, j3, b1, b2, b3⟩ := o.ct i' j' z' h'
    have hz' := (hm.zr (h'.lt ok).2.1).1
    have bnd : g * m.L + j2 * k + k ≤ G.cs.length := by
      rw [o.ln, hc]
      have := plc_lt (t := k - 1) gn j2l (by omega)
      omega
    have src_dst : i * m.L + j * k + k ≤ g * m.L + j2 * k ∨ g * m.L + j2 * k + k ≤ i * m.L + j * k := pages_apart hz.1 jl hz.1 j2l mv.ne.symm
    by_cases q : i2 = i ∧ j3 = j
    · obtain ⟨rfl, rfl⟩ := q
      have ez : z' = k := has_one b2 mv.has
      subst ez
      rcases behind_or G.mv (i' * m.L + j' * z') with ⟨e1, e2⟩ | ⟨x, hx, e1, e2⟩
      · have ep : i' * m.L + j' * z' = i2 * m.L + j3 * z' := e1.symm.trans b1
        refine ⟨g, j2, ?_, hS2, fun t ht => ?_⟩
        · show behindN (G.mv ++ [_]) _ = _
          rw [behind_snoc_no e2]
          dsimp only
          rw [if_pos ep.symm]
        · show (cpy G.cs (i2 * m.L + j3 * z') (g * m.L + j2 * z') z').getD _ 0 = _
          rw [cpy_get _ _ _ _ _ bnd src_dst, if_pos ⟨Nat.le_add_right _ _, by omega⟩, Nat.add_sub_cancel_left]
          exact b3 t ht
      · obtain ⟨_, g', jj, hg', hjj, _, e3⟩ := o.mv x hx
        exfalso
        have e4 : g' * m.L + jj * z' = i2 * m.L + j3 * z' := by rw [← e3, ← e2, b1]
        have p1 := page_of (i := g') hz.1 hjj
        have p2 := page_of (i := i2) hz.1 jl
        rw [e4] at p1
        exact hil (by rw [← p2.1, p1.1]; exact hg')
    · have nx : i * m.L + j * k ≠ i' * m.L + j' * z' := fun e => by
        have e1 : behindN G.mv (i' * m.L + j' * z') = i' * m.L + j' * z' := behind_no fun x hx => by rw [← e]; exact nsrc x hx
        have e2 : i2 * m.L + j3 * z' = i * m.L + j * k := by rw [← b1, e1, e]
        obtain ⟨q1, q2, _⟩ := place_inj hm ok1 b2 mv.has e2
        exact q ⟨q1, q2⟩
      have ng : ¬ (i2 = g ∧ j3 = j2) := fun q => by
        obtain ⟨rfl, rfl⟩ := q
        exact fr z' b2
      have hn : Has (mvS G.S i j g j2) i2 j3 z' := by rw [hs, if_neg ng]; exact ⟨b2, q⟩
      refine ⟨i2, j3, ?_, hn, fun t ht => ?_⟩
      · show behindN (G.mv ++ [_]) _ = _
        rw [behind_snoc_ne nx]
        exact b1
      · show (cpy G.cs (i * m.L + j * k) (g * m.L + j2 * k) k).getD _ 0 = _
        have ap := slots_apart hm ok2 hn hS2 ng
        rw [cpy_get _ _ _ _ _ bnd src_dst, if_neg (by omega)]
        exact b3 t ht
  · show (cpy G.cs _ _ _).length = _
    rw [cpy_len]
    exact o.ln
theorem gath_kp {m : PlM} {S : Tb} {cs : List Int} {k : Nat} (hm : m.Ok) (ok : SOk m S) (hk : (k : Int) ∈ m.sizes) (hc : cs.length = m.n * m.L) : Kp m S k cs (gathG m S cs k) := by
  have key := gath_ind2 (cs := cs) hm ok hk (fun t j G => Kp m S k cs G)
    ⟨(fun _ h => nomatch h), fun i hi j z h => ⟨h, fun _ h => nomatch h⟩, fun i hi j z h => h, fun i j z h => ⟨i, j, rfl, h, fun _ _ => rfl⟩, rfl⟩
    (fun t i j G ht hj gp hp hn => hp)
    (fun t i j g j2 G ht hj gp hp mv gp' => kp_step hm ok hk hc gp gp' mv (List.mem_of_getElem? ht) hp)
    (fun t G ht gp hp => hp)
  exact key.1
theorem gathS_has {m : PlM} {S : Tb} {cs : List Int} {k : Nat} (hm : m.Ok) (ok : SOk m S) (hk : (k : Int) ∈ m.sizes) (i j z : Nat) : Has (gathS m S cs k) i j z ↔ Has (gathG m S cs k).S i j z := by
  obtain ⟨_, _, same, hl, _⟩ := gath_things (cs := cs) (out := thingsOf m S) hm ok hk (List.Perm.refl _)
  exact drop_has (fun i hi j z => hl i hi j z) i j z
/-- a thing lies behind a gathering where the moves say, with what it held -/
theorem gath_keep {m : PlM} {S : Tb} {cs : List Int} {k p z : Nat} (hm : m.Ok) (ok : SOk m S) (hk : (k : Int) ∈ m.sizes) (hc : cs.length = m.n * m.L) (ok' : SOk m (gathS m S cs k)) (h : (p, z) ∈ thingsOf m S) :
    (behindN (gathG m S cs k).mv p, z) ∈ thingsOf m (gathS m S cs k) ∧ ∀ t, t < z → (gathG m S cs k).cs.getD (behindN (gathG m S cs k).mv p + t) 0 = cs.getD (p + t) 0 := by
  obtain ⟨i, j, h1, rfl⟩ := (mem_things ok).mp h
  obtain ⟨i2, j2, b1, b2, b3⟩ := (gath_kp (cs := cs) hm ok hk hc).ct i j z h1
  rw [b1]
  exact ⟨(mem_things ok').mpr ⟨i2, j2, (gathS_has hm ok hk _ _ _).mpr b2, rfl⟩, b3⟩
theorem gath_len_cs {m : PlM} {S : Tb} {cs : List Int} {k : Nat} (hm : m.Ok) (ok : SOk m S) (hk : (k : Int) ∈ m.sizes) (hc : cs.length = m.n * m.L) : (gathG m S cs k).cs.length = m.n * m.L := (gath_kp (cs := cs) hm ok hk hc).ln.trans hc
/-- a list moved: the law's list, by what lies behind -/
theorem out_behind {k : Nat} : ∀ (mv out : List (Nat × Nat)), (out.map (·.1)).Nodup → (mv.map (·.1)).Nodup → (∀ x ∈ mv, (x.1, k) ∈ out) → (mv.map (·.2)).Nodup → (∀ x ∈ mv, x.2 ∉ out.map (·.1)) → mv.foldl (outSet k) out = out.map fun p => (behindN mv p.1, p.2)
  | [], out, _, _, _, _, _ => by
    show out = out.map fun p => (p.1, p.2)
    rw [List.map_id'']
    intro p; rfl
  | x :: r, out, nd, s1, s2, d1, d2 => by
    have hmem := s2 x List.mem_cons_self
    have hx2 := d2 x List.mem_cons_self
    rw [List.map_cons] at s1 d1
    obtain ⟨s3, s4⟩ := List.nodup_cons.mp s1
    obtain ⟨d3, d4⟩ := List.nodup_cons.mp d1
    have pm := outSet_perm (pq := x) hmem
    have pm1 := pm.map (·.1)
    rw [List.map_cons, List.map_cons] at pm1
    have nd2 : ((outSet k out x).map (·.1)).Nodup := (List.nodup_cons.mp (pm1.nodup_iff.mpr (List.nodup_cons.mpr ⟨hx2, nd⟩))).2
    have sub : ∀ q ∈ (outSet k out x).map (·.1), q = x.2 ∨ q ∈ out.map (·.1) := fun q hq => by
      rcases List.mem_cons.mp (pm1.mem_iff.mp (List.mem_cons_of_mem _ hq)) with e | e
      · exact .inl e
      · exact .inr e
    have em : outSet k out x = out.map fun p => if p.1 = x.1 then (x.2, p.2) else p := by
      unfold outSet
      refine List.ext_getElem? fun n => ?_
      rw [List.getElem?_map]
      obtain ⟨i1, i2⟩ := idx_first hmem
      by_cases e : out.idxOf (x.1, k) = n
      · subst e
        rw [List.getElem?_set_self (List.getElem?_eq_some_iff.mp i1).1, i1]
        simp
      · rw [List.getElem?_set_ne e]
        cases q : out[n]? with
        | none => rfl
        | some p =>
          have hne : p.1 ≠ x.1 := fun e1 => by
            obtain ⟨l1, v1⟩ := List.getElem?_eq_some_iff.mp q
            obtain ⟨l2, v2⟩ := List.getElem?_eq_some_iff.mp i1
            have := List.nodup_iff_pairwise_ne.mp nd
            rw [List.pairwise_map] at this
            have pw := List.pairwise_iff_getElem.mp this
            rcases Nat.lt_or_gt_of_ne e with h | h
            · exact pw _ _ l2 l1 h (by rw [v1, v2, e1])
            · exact pw _ _ l1 l2 h (by rw [v1, v2, e1])
          show some p = some (if p.1 = x.1 then (x.2, p.2) else p)
          rw [if_neg hne]
    show r.foldl (outSet k) (outSet k out x) = _
    rw [out_behind r (outSet k out x) nd2 s4 (fun y hy => ?_) d4 (fun y hy hq => ?_), em, List.map_map]
    · refine List.map_congr_left fun p hp => ?_
      show (behindN r (if p.1 = x.1 then (x.2, p.2) else p).1, (if p.1 = x.1 then (x.2, p.2) else p).2) = (behindN (x :: r) p.1, p.2)
      by_cases e : p.1 = x.1
      · rw [if_pos e]
        have e2 : behindN (x :: r) p.1 = x.2 := by unfold behindN; rw [if_pos e.symm]
        rw [e2]
        have e3 : behindN r x.2 = x.2 := behind_no fun y hy h => hx2 (by rw [← h]; exact List.mem_map.mpr ⟨_, s2 y (List.mem_cons_of_mem _ hy), rfl⟩)
        show (behindN r x.2, p.2) = (x.2, p.2)
        rw [e3]
      · rw [if_neg e]
        have e2 : behindN (x :: r) p.1 = behindN r p.1 := by
          show (if x.1 = p.1 then x.2 else behindN r p.1) = _
          rw [if_neg (fun h => e h.symm)]
        rw [e2]
    · rw [em]
      refine List.mem_map.mpr ⟨_, s2 y (List.mem_cons_of_mem _ hy), ?_⟩
      have hne : y.1 ≠ x.1 := fun e => s3 (by rw [← e]; exact List.mem_map.mpr ⟨y, hy, rfl⟩)
      dsimp only
      rw [if_neg hne]
    · rcases sub _ hq with e | e
      · exact d3 (by rw [← e]; exact List.mem_map.mpr ⟨y, hy, rfl⟩)
      · exact d2 y (List.mem_cons_of_mem _ hy) e
/-- what the moves are, by the law's list -/
structure Fits (m : PlM) (S : Tb) (k : Nat) (mv : List (Nat × Nat)) : Prop where
  src : (mv.map (·.1)).Pairwise (· < ·)
  dst : (mv.map (·.2)).Pairwise (· < ·)
  frm : ∀ x ∈ mv, (x.1, k) ∈ thingsOf m S
  to : ∀ x ∈ mv, ∃ g j, g ∈ stayO m S k ∧ j < m.L / k ∧ x.2 = g * m.L + j * k ∧ x.2 ∉ (thingsOf m S).map (·.1)
theorem gath_fits {m : PlM} {S : Tb} {cs : List Int} {k : Nat} (hm : m.Ok) (ok : SOk m S) (hk : (k : Int) ∈ m.sizes) (hc : cs.length = m.n * m.L) : Fits m S k (gathG m S cs k).mv := by
  obtain ⟨o1, o2⟩ := gath_ord (cs := cs) hm ok hk
  have kp := gath_kp (cs := cs) hm ok hk hc
  have hz := hm.zr hk
  refine ⟨o1, o2, fun x hx => ?_, fun x hx => ?_⟩
  · obtain ⟨⟨i, j, _, h, e⟩, _⟩ := kp.mv x hx
    rw [e]
    exact (mem_things ok).mpr ⟨i, j, h, rfl⟩
  · obtain ⟨_, g, j, hg, hj, hn, e⟩ := kp.mv x hx
    refine ⟨g, j, hg, hj, e, fun hq => ?_⟩
    obtain ⟨⟨p, z⟩, hp, e2⟩ := List.mem_map.mp hq
    obtain ⟨i', j', h', e3⟩ := (mem_things ok).mp hp
    have e4 : i' * m.L + j' * z = g * m.L + j * k := by rw [← e3, ← e, ← e2]
    obtain ⟨b1, b2, b3⟩ := h'.lt ok
    have p1 := page_of (i := i') (hm.zr b2).1 b3
    have p2 := page_of (i := g) hz.1 hj
    rw [e4] at p1
    have eg : i' = g := p1.1.symm.trans p2.1
    subst eg
    obtain ⟨y, hy, yz, _⟩ := own_get ok (SameSh.refl S) (stay_own hg)
    have ez : z = k := by
      rw [← h'.sf, sfOf_at hy, yz]
    subst ez
    have ej : j' = j := Nat.eq_of_mul_eq_mul_right hz.1 (by omega)
    subst ej
    exact hn _ h'
end Sb
namespace Sb
open PySem PySem.Spec PyProof.Rows L2
/-! ### sorted(..) of a list of pairs -/
def pairI (p : Int × Int) : List V := [.int p.1, .int p.2]
def kOf (H : Hp) (v : V) : Int × Int := match v with
  | .ref t => match H t with
    | some (.tup [.int a, .int b]) => (a, b)
    | _ => (0, 0)
  | _ => (0, 0)
theorem kOf_at {H : Hp} {t : Addr} {p : Int × Int} (h : H t = some (.tup (pairI p))) : kOf H (.ref t) = p := by
  simp only [kOf, h, pairI]
def lexI (a b : Int × Int) : Prop := a.1 < b.1 ∨ (a.1 = b.1 ∧ a.2 ≤ b.2)
theorem each_at {H : Hp} : ∀ {ts : List Addr} {l : List (Int × Int)}, ts.map H = (l.map pairI).map (fun r => some (HO.tup r)) → l = ts.map (fun t => kOf H (.ref t)) ∧ ∀ t ∈ ts, H t = some (.tup (pairI (kOf H (.ref t))))
  | [], [], _ => ⟨rfl, fun _ h => nomatch h⟩
  | [], _ :: _, h => nomatch h
  | _ :: _, [], h => nomatch h
  | t :: ts, p :: l, h => by
    rw [List.map_cons, List.map_cons, List.map_cons] at h
    injection h with h1 h2
    obtain ⟨i1, i2⟩ := each_at h2
    have e := kOf_at h1
    refine ⟨by rw [List.map_cons, e, ← i1], fun u hu => ?_⟩
    rcases List.mem_cons.mp hu with q | q
    · rw [q, e]; exact h1
    · exact i2 u q
theorem sorted_pairsI {K : PySem.W.Frag} {H : Hp} {a : Addr} {l : List (Int × Int)} (h : TupL H a (l.map pairI)) : ∃ (xs : List V) (k : V → Int × Int), SqL K H a xs ∧ (∀ x ∈ xs, ∃ t, x = V.ref t ∧ H t = some (.tup [.int (k x).1, .int (k x).2])) ∧
    ∀ ys p, SrtO.Srtd (ltP k) ys → SrtO.Stb (ltP k) ys xs → H p = none → ∃ l' : List (Int × Int), l'.Perm l ∧ l'.Pairwise lexI ∧ TupL (upd H p (.lst ys)) p (l'.map pairI) := by
  obtain ⟨ts, h1, h2⟩ := h
  obtain ⟨e1, e2⟩ := each_at h2
  refine ⟨ts.map V.ref, kOf H, SqL.of h1, fun x hx => ?_, fun ys p hs st hp => ?_⟩
  · obtain ⟨t, ht, rfl⟩ := List.mem_map.mp hx
    exact ⟨t, rfl, e2 t ht⟩
  · obtain ⟨js, c1, c2⟩ := perm_lift V.ref st.perm ts rfl
    subst c2
    refine ⟨js.map fun t => kOf H (.ref t), ?_, ?_, ?_⟩
    · rw [e1]; exact c1.map _
    · rw [List.pairwise_map]
      refine (List.pairwise_map.mp hs).imp fun {x y} h => ?_
      have h' := SrtO.lexB_no.mp h
      unfold lexI
      omega
    · refine ⟨js, upd_same, ?_⟩
      rw [List.map_map, List.map_map]
      refine List.map_congr_left fun t ht => ?_
      have e3 := e2 t (c1.mem_iff.mp ht)
      exact sm_n hp _ _ e3
def lexN (a b : Nat × Nat) : Prop := a.1 < b.1 ∨ (a.1 = b.1 ∧ a.2 ≤ b.2)
def natI (p : Nat × Nat) : Int × Int := (p.1, p.2)
theorem pairV_I (l : List (Nat × Nat)) : l.map pairV = (l.map natI).map pairI := by rw [List.map_map]; rfl
theorem sorted_pairs {K : PySem.W.Frag} {H : Hp} {a : Addr} {l : List (Nat × Nat)} (h : TupP H a l) : ∃ (xs : List V) (k : V → Int × Int), SqL K H a xs ∧ (∀ x ∈ xs, ∃ t, x = V.ref t ∧ H t = some (.tup [.int (k x).1, .int (k x).2])) ∧
    ∀ ys p, SrtO.Srtd (ltP k) ys → SrtO.Stb (ltP k) ys xs → H p = none → ∃ l' : List (Nat × Nat), l'.Perm l ∧ l'.Pairwise lexN ∧ TupP (upd H p (.lst ys)) p l' := by
  have h' : TupL H a ((l.map natI).map pairI) := by rw [← pairV_I]; exact h
  obtain ⟨xs, k, h1, h2, h3⟩ := sorted_pairsI (K := K) h'
  refine ⟨xs, k, h1, h2, fun ys p hs st hp => ?_⟩
  obtain ⟨l', pm, pw, tp⟩ := h3 ys p hs st hp
  obtain ⟨js, c1, c2⟩ := perm_lift natI pm l rfl
  subst c2
  refine ⟨js, c1, ?_, ?_⟩
  · refine (List.pairwise_map.mp pw).imp fun {x y} h => ?_
    unfold lexI natI at h
    unfold lexN
    dsimp only at h
    omega
  · rw [← pairV_I] at tp; exact tp
theorem lexN_anti (a b : Nat × Nat) (h1 : lexN a b) (h2 : lexN b a) : a = b := by
  obtain ⟨a1, a2⟩ := a
  obtain ⟨b1, b2⟩ := b
  unfold lexN at h1 h2
  dsimp only at h1 h2
  have e1 : a1 = b1 := by omega
  have e2 : a2 = b2 := by omega
  rw [e1, e2]
/-- what is sorted by its first parts is the list sorted -/
theorem sorted_is {l l' s : List (Nat × Nat)} (h1 : l'.Perm l) (h2 : l'.Pairwise lexN) (h3 : s.Perm l) (h4 : s.Pairwise fun a b => a.1 < b.1) : l' = s :=
  eq_srt lexN_anti h2 (h4.imp fun {a b} h => .inl h) (h1.trans h3.symm)
end Sb
namespace Sb
open PySem PySem.Spec PyProof.Rows L2
/-! ### numbers of their own at the places of things -/
def Gd (cs : List Int) (p t : Nat) : Prop := cs.getD (p + t) 0 = (p : Int) * 61 + t + 1
theorem gd_set {m : PlM} {S : Tb} {cs : List Int} {p z t p' z' t' : Nat} (hm : m.Ok) (ok : SOk m S) (hc : cs.length = m.n * m.L) (h : (p, z) ∈ thingsOf m S) (ht : t < z) (h' : (p', z') ∈ thingsOf m S) (ht' : t' < z') (g : Gd cs p t ∨ (p = p' ∧ t = t')) : Gd (cs.set (p' + t') ((p' : Int) * 61 + t' + 1)) p t := by
  unfold Gd at g ⊢
  have hb := (thing_in hm ok h').2
  rw [getD_set _ _ _ _ (by omega)]
  by_cases e : p + t = p' + t'
  · have ep : p = p' := Classical.byContradiction fun n => by
      rcases things_apart hm ok h h' n with q | q <;> omega
    subst ep
    have et : t = t' := by omega
    subst et
    rw [if_pos rfl]
  · rw [if_neg e]
    rcases g with g | ⟨rfl, rfl⟩
    · exact g
    · exact absurd rfl e
/-- behind a gathering -/
theorem gd_gath {m : PlM} {S : Tb} {cs : List Int} {k p z t : Nat} (hm : m.Ok) (ok : SOk m S) (hk : (k : Int) ∈ m.sizes) (hc : cs.length = m.n * m.L) (ok' : SOk m (gathS m S cs k)) (h : (p, z) ∈ thingsOf m S) (ht : t < z) (g : Gd cs p t) :
    (gathG m S cs k).cs.getD (behindN (gathG m S cs k).mv p + t) 0 = (p : Int) * 61 + t + 1 := by
  rw [(gath_keep (cs := cs) hm ok hk hc ok' h).2 t ht]
  exact g
/-! ### the law's counts -/
def cntL (L k : Nat) (out : List (Nat × Nat)) (q : Nat) : Nat := (thereL L out q).count k
theorem cntL_out {m : PlM} {S : Tb} {k q : Nat} {out : List (Nat × Nat)} (hm : m.Ok) (ok : SOk m S) (h : out.Perm (thingsOf m S)) : cntL m.L k out q = cO S k q := by
  unfold cntL cO
  rw [there_out hm ok h]
  cases S q with
  | none => rfl
  | some x =>
    show (List.replicate (cnt x.tk) x.z).count k = if x.z = k then cnt x.tk else 0
    rw [List.count_replicate]
    by_cases e : x.z = k
    · rw [if_pos e, if_pos (by simpa using e)]
    · rw [if_neg e, if_neg (by simpa using e)]
theorem cntL_snoc {L k q : Nat} {out : List (Nat × Nat)} {p : Nat × Nat} : cntL L k (out ++ [p]) q = cntL L k out q + if p.1 / L = q ∧ p.2 = k then 1 else 0 := by
  unfold cntL thereL
  rw [List.filter_append, List.map_append, List.count_append]
  congr 1
  by_cases h : p.1 / L = q
  · have : List.filter (fun p : Nat × Nat => decide (p.1 / L = q)) [p] = [p] := by simp [List.filter, h]
    rw [this, List.map_singleton, List.count_singleton]
    by_cases e : p.2 = k
    · simp [h, e]
    · simp [h, e]
  · have : List.filter (fun p : Nat × Nat => decide (p.1 / L = q)) [p] = [] := by simp [List.filter, h]
    rw [this, if_neg (fun z => h z.1)]; rfl
theorem map_set_range {f g : Nat → Nat} {n i : Nat} (hi : i < n) (h : ∀ q, q < n → g q = if q = i then f i + 1 else f q) : ((List.range n).map f).set i (f i + 1) = (List.range n).map g := by
  refine List.ext_getElem? fun j => ?_
  by_cases e : i = j
  · subst e
    rw [List.getElem?_set_self (by rw [List.length_map, List.length_range]; exact hi), List.getElem?_map, List.getElem?_range hi]
    show _ = some (g i)
    rw [h i hi, if_pos rfl]
  · rw [List.getElem?_set_ne e, List.getElem?_map, List.getElem?_map]
    by_cases hj : j < n
    · rw [List.getElem?_range hj]
      show some (f j) = some (g j)
      rw [h j hj, if_neg (fun q => e q.symm)]
    · rw [List.getElem?_eq_none (by rw [List.length_range]; omega)]
      rfl
/-- a shelf that stays has something out -/
theorem stay_pos {m : PlM} {S : Tb} {k g : Nat} (hm : m.Ok) (ok : SOk m S) (hk : (k : Int) ∈ m.sizes) (hg : g ∈ stayO m S k) : 1 ≤ cn S g := by
  have hz := hm.zr hk
  have hp1 := per1 hz.1 hz.2
  have hgt : g ∈ (rankedL S (own S m.n k)).take (needL S (own S m.n k) (m.L / k)) := of_decide_eq_true (List.mem_filter.mp hg).2
  refine Classical.byContradiction fun h0 => ?_
  have hc0 : cn S g = 0 := by omega
  obtain ⟨t, ht, et⟩ := List.getElem_of_mem hgt
  rw [List.length_take] at ht
  rw [List.getElem_take] at et
  have htl : t < (rankedL S (own S m.n k)).length := by omega
  have pw := ranked_pw S (own S m.n k)
  have hsplit : sumC S (rankedL S (own S m.n k)) = sumC S ((rankedL S (own S m.n k)).take t) + sumC S ((rankedL S (own S m.n k)).drop t) := by
    unfold sumC
    rw [← List.sum_append, ← List.map_append, List.take_append_drop]
  have hd0 : sumC S ((rankedL S (own S m.n k)).drop t) = 0 := sumC_le0 fun i hi => by
    obtain ⟨u, hu, eu⟩ := List.getElem_of_mem hi
    rw [List.getElem_drop] at eu
    rw [List.length_drop] at hu
    by_cases e : u = 0
    · subst e
      have : i = g := by rw [← eu, ← et]; rfl
      rw [this]; exact hc0
    · have := List.pairwise_iff_getElem.mp pw t (t + u) htl (by omega) (by omega)
      rw [et, eu, rkLe_iff] at this
      omega
  have ht2 : sumC S ((rankedL S (own S m.n k)).take t) ≤ t * (m.L / k) := by
    refine Nat.le_trans (sumC_leN (k := m.L / k) fun q hq => ?_) ?_
    · have hq2 := (ranked_perm S _).mem_iff.mp (List.mem_of_mem_take hq)
      obtain ⟨y, hy, _, yl⟩ := own_get ok (SameSh.refl S) hq2
      rw [cn_at hy, ← yl]
      exact cnt_le _
    · rw [List.length_take]
      exact Nat.mul_le_mul_right _ (Nat.min_le_left _ _)
  have hsum : sumC S (rankedL S (own S m.n k)) = sumC S (own S m.n k) := ((ranked_perm S _).map _).sum_nat
  have hn : needL S (own S m.n k) (m.L / k) ≤ t := by
    unfold needL
    have : sumC S (own S m.n k) + m.L / k - 1 < (t + 1) * (m.L / k) := by
      rw [Nat.succ_mul]
      omega
    have := (Nat.div_lt_iff_lt_mul hp1).mpr this
    omega
  omega
theorem gath_le {m : PlM} {S : Tb} {cs : List Int} {k : Nat} (hm : m.Ok) (ok : SOk m S) (hk : (k : Int) ∈ m.sizes) : (gathG m S cs k).mv.length ≤ 2400 := by
  have h1 := gath_len (cs := cs) hm ok hk
  have h2 : sumC S (own S m.n k) ≤ (own S m.n k).length * 60 := sumC_leN fun q hq => by
    obtain ⟨y, hy, _, yl⟩ := own_get ok (SameSh.refl S) hq
    rw [cn_at hy]
    exact Nat.le_trans (cnt_le _) (by rw [yl]; exact Nat.le_trans (Nat.div_le_self _ _) hm.L60)
  have h3 := own_len S m.n k
  have h4 := plen m hm
  omega
/-- as many shelves are left as are needed -/
theorem rows_left {m : PlM} {S : Tb} {cs : List Int} {k : Nat} (hm : m.Ok) (ok : SOk m S) (hk : (k : Int) ∈ m.sizes) : (own (gathS m S cs k) m.n k).length = needL S (own S m.n k) (m.L / k) := by
  rw [own_gath hm ok hk]
  have h1 := stay_len (S := S) (k := m.L / k) (own_lt S m.n k)
  rw [Nat.min_eq_left (need_le hm ok hk)] at h1
  exact h1
end Sb
set_option pp.maxSteps 1500
namespace Sb
open PySem PySem.Spec PyProof.Rows L2
/-! ### xs.count(b), bools -/
def eqb (k : Bool) (v : Value) : Bool := match v with
  | .bool n => n == k
  | _ => false
def rCntB (K : PySem.W.Frag) : V → List V → Hp → VK → Prop := fun x xs H Q => ∃ (p : Addr) (bs : List Bool) (k : Bool), x = .ref p ∧ xs = [.bl k] ∧ SqL K H p (bs.map V.bl) ∧ Q (.int (bs.count k : Nat)) H
theorem bools_of : ∀ {bs : List Bool} {us : List Value}, Vals (bs.map V.bl) us → us = bs.map Value.bool
  | [], [], _ => rfl
  | b :: bs, u :: us, h => by
    cases h with
    | cons r rr =>
      cases r
      rw [bools_of rr]; rfl
  | [], _ :: _, h => by cases h
  | _ :: _, [], h => by cases h
theorem eqb_count (k : Bool) : ∀ bs : List Bool, (bs.map Value.bool).countP (eqb k) = bs.count k
  | [] => rfl
  | b :: bs => by
    rw [List.map_cons, List.countP_cons, List.count_cons, eqb_count k bs]
    rfl
theorem mt_lcountB {X : Cx} : MtR X "list.count" (rCntB X.K) := by
  intro pins s σ H x xs v us Q I rx rxs h
  obtain ⟨p, bs, k, rfl, rfl, hs, q⟩ := h
  cases rx
  obtain ⟨u, rfl, ru⟩ := rxs.one
  obtain rfl : u = Value.bool k := ru
  obtain ⟨its, rv, ⟨⟨cls, dd, data, sl⟩, n, ho, hc, hdn, hd⟩, hlen⟩ := I.list hs
  simp only at hc hd
  subst hc hd
  have hi := bools_of rv
  refine call_meets PySem.F.slot_list_count ⟨_, ho, rfl⟩ PySem.F.entry_list_count (PySem.F.args_list_count_2 _ _)
    (SeqAt.list_countAt p its.toArray n dd sl (.bool k) (eqb k)) ⟨ho, fun y hy => ?_, ?_⟩
  · have hy' : y ∈ its := by simpa using hy
    rw [hi] at hy'
    obtain ⟨b, _, rfl⟩ := List.mem_map.mp hy'
    exact SeqAt.EqAt.bool_bool b k
  · have ec : its.toArray.toList.countP (eqb k) = bs.count k := by
      show its.countP (eqb k) = _
      rw [hi]; exact eqb_count k bs
    refine ⟨.int (bs.count k : Nat), H, I.tok _, ⟨s.toks, ?_⟩, q⟩
    show Value.int ((its.toArray.toList.countP (eqb k) : Nat) : Int) s.toks = Value.int ((bs.count k : Nat) : Int) s.toks
    rw [ec]
/-! ### the law's own keeping: a dict of rows -/
structure Ms where
  ad : Lb → Addr
  js : List Nat
  S : Tb
def liveM (S : Tb) : Lb → Prop
  | .d => True
  | .p i => (S i).isSome = true
  | .t i => (S i).isSome = true
  | _ => False
def Ms.ob (s : Ms) : Lb → HO
  | .d => .dK (kvR s.ad s.js)
  | .p i => .lst [.int ((sfOf s.S i).z : Nat), .ref (s.ad (.t i))]
  | .t i => .lst ((sfOf s.S i).tk.map V.bl)
  | _ => .lst []
structure MdI (H : Hp) (n : Nat) (s : Ms) : Prop where
  at_ : ∀ l, liveM s.S l → H (s.ad l) = some (s.ob l)
  inj : ∀ l l', liveM s.S l → liveM s.S l' → s.ad l = s.ad l' → l = l'
  js : s.js.Perm (pgs s.S n)
  bnd : ∀ i, (s.S i).isSome = true → i < n
def footM (s : Ms) (a : Addr) : Prop := ∃ l, liveM s.S l ∧ s.ad l = a
def MdAt (H : Hp) (n : Nat) (d : Addr) (F : Addr → Prop) (S : Tb) : Prop := ∃ s : Ms, MdI H n s ∧ s.ad .d = d ∧ s.S = S ∧ footM s = F
section
variable {H H' : Hp} {n : Nat} {s : Ms}
theorem MdI.d (I : MdI H n s) : H (s.ad .d) = some (.dK (kvR s.ad s.js)) := I.at_ .d trivial
theorem MdI.p {i : Nat} {x : Sf} (I : MdI H n s) (h : s.S i = some x) : H (s.ad (.p i)) = some (.lst [.int (x.z : Nat), .ref (s.ad (.t i))]) := by
  have := I.at_ (.p i) (by show (s.S i).isSome = true; rw [h]; rfl)
  rw [this]
  show some (HO.lst [.int ((sfOf s.S i).z : Nat), _]) = _
  rw [sfOf_at h]
theorem MdI.t {i : Nat} {x : Sf} (I : MdI H n s) (h : s.S i = some x) : H (s.ad (.t i)) = some (.lst (x.tk.map V.bl)) := by
  have := I.at_ (.t i) (by show (s.S i).isSome = true; rw [h]; rfl)
  rw [this]
  show some (HO.lst ((sfOf s.S i).tk.map V.bl)) = _
  rw [sfOf_at h]
theorem MdI.keep (I : MdI H n s) (k : ∀ a o, H a = some o → footM s a → H' a = some o) : MdI H' n s := ⟨fun l h => k _ _ (I.at_ l h) ⟨l, h, rfl⟩, I.inj, I.js, I.bnd⟩
theorem MdI.same (I : MdI H n s) (k : Same H H') : MdI H' n s := I.keep fun a o e _ => k a o e
theorem MdI.mem_js {i : Nat} (I : MdI H n s) : i ∈ s.js ↔ (s.S i).isSome = true := by
  rw [I.js.mem_iff, mem_pgs]
  exact ⟨fun h => h.2, fun h => ⟨I.bnd i h, h⟩⟩
theorem MdI.dget {i : Nat} {x : Sf} (I : MdI H n s) (h : s.S i = some x) : DGet H (s.ad .d) (.int (i : Nat)) (some (.ref (s.ad (.p i)))) := by
  have e : valV (kvR s.ad s.js) (Sum.inl (i : Int)) = some (V.ref (s.ad (.p i))) := by rw [valV_kvR, if_pos (I.mem_js.mpr (by rw [h]; rfl))]
  have g := DGet.k (k := Sum.inl (i : Int)) I.d
  rw [e] at g
  exact g
theorem MdI.dget_no {i : Nat} (I : MdI H n s) (h : s.S i = none) : DGet H (s.ad .d) (.int (i : Nat)) none := by
  have e : valV (kvR s.ad s.js) (Sum.inl (i : Int)) = none := by rw [valV_kvR, if_neg (fun q => by have := I.mem_js.mp q; rw [h] at this; cases this)]
  have g := DGet.k (k := Sum.inl (i : Int)) I.d
  rw [e] at g
  exact g
theorem MdI.keysD (I : MdI H n s) (hn : n ≤ 40) : (kvR s.ad s.js).map (·.1) = (castI s.js).map Sum.inl ∧ (castI s.js).length < 64 ∧ ∀ ys : List Int, ys.Perm (castI s.js) → ys.Pairwise (· ≤ ·) → ys = castI (pgs s.S n) := by
  refine ⟨?_, ?_, fun ys h1 h2 => ?_⟩
  · unfold kvR castI
    rw [List.map_map, List.map_map]; rfl
  · rw [List.length_map, I.js.length_eq]
    have := pgs_len s.S n
    omega
  · exact eq_le h2 (castI_le (pgs_lt _ _)) (h1.trans (I.js.map _))
theorem MdI.ne {l l' : Lb} (I : MdI H n s) (h1 : liveM s.S l) (h2 : liveM s.S l') (q : l ≠ l') : s.ad l ≠ s.ad l' := fun e => q (I.inj l l' h1 h2 e)
theorem MdI.noTup {a : Addr} {x : List V} (I : MdI H n s) (h : H a = some (.tup x)) : ¬ footM s a := by
  rintro ⟨l, hl, rfl⟩
  rw [I.at_ l hl] at h
  cases l <;> cases h
theorem MdI.nofoot {a : Addr} (I : MdI H n s) (h : H a = none) : ¬ footM s a := by
  rintro ⟨l, hl, rfl⟩
  rw [I.at_ l hl] at h
  cases h
/-- a row's slots are written -/
theorem MdI.setT {i : Nat} {x y : Sf} (I : MdI H n s) (h : s.S i = some x) (hz : y.z = x.z) : MdI (upd H (s.ad (.t i)) (.lst (y.tk.map V.bl))) n { s with S := updT s.S i (some y) } := by
  have lv : ∀ l, liveM (updT s.S i (some y)) l → liveM s.S l := fun l q => by
    cases l with
    | p j =>
      by_cases e : j = i
      · subst e; show (s.S j).isSome = true; rw [h]; rfl
      · have q' : (updT s.S i (some y) j).isSome = true := q
        rw [updT_ne e] at q'; exact q'
    | t j =>
      by_cases e : j = i
      · subst e; show (s.S j).isSome = true; rw [h]; rfl
      · have q' : (updT s.S i (some y) j).isSome = true := q
        rw [updT_ne e] at q'; exact q'
    | d => trivial
    | _ => exact q
  have lt : liveM s.S (.t i) := by show (s.S i).isSome = true; rw [h]; rfl
  have sy : sfOf (updT s.S i (some y)) i = y := sfOf_at updT_same
  have sn : ∀ j, j ≠ i → sfOf (updT s.S i (some y)) j = sfOf s.S j := fun j e => by unfold sfOf; rw [updT_ne e]
  refine ⟨fun l hl => ?_, fun l l' h1 h2 e => I.inj l l' (lv l h1) (lv l' h2) e, ?_, fun j hj => ?_⟩
  · show upd H (s.ad (.t i)) _ (s.ad l) = some (Ms.ob { s with S := updT s.S i (some y) } l)
    by_cases q : l = .t i
    · subst q
      rw [upd_same]
      show some (HO.lst (y.tk.map V.bl)) = some (HO.lst ((sfOf (updT s.S i (some y)) i).tk.map V.bl))
      rw [sy]
    · rw [upd_ne (I.ne (lv l hl) lt q), I.at_ l (lv l hl)]
      cases l with
      | d => rfl
      | p j =>
        show some (HO.lst [.int ((sfOf s.S j).z : Nat), .ref (s.ad (.t j))]) = some (HO.lst [.int ((sfOf (updT s.S i (some y)) j).z : Nat), .ref (s.ad (.t j))])
        by_cases e : j = i
        · subst e; rw [sy, sfOf_at h, hz]
        · rw [sn j e]
      | t j =>
        have e : j ≠ i := fun e => q (by rw [e])
        show some (HO.lst ((sfOf s.S j).tk.map V.bl)) = some (HO.lst ((sfOf (updT s.S i (some y)) j).tk.map V.bl))
        rw [sn j e]
      | _ => exact hl.elim
  · have e : pgs (updT s.S i (some y)) n = pgs s.S n := by
      unfold pgs
      refine List.filter_congr fun q _ => ?_
      by_cases e : q = i
      · subst e; rw [updT_same, h]; rfl
      · rw [updT_ne e]
    show s.js.Perm (pgs (updT s.S i (some y)) n)
    rw [e]; exact I.js
  · have hj' : (updT s.S i (some y) j).isSome = true := hj
    by_cases e : j = i
    · subst e; exact I.bnd j (by rw [h]; rfl)
    · rw [updT_ne e] at hj'; exact I.bnd j hj'
theorem footM_set {i : Nat} {x y : Sf} (h : s.S i = some x) : footM { s with S := updT s.S i (some y) } = footM s := by
  have e : ∀ l, liveM (updT s.S i (some y)) l ↔ liveM s.S l := fun l => by
    cases l with
    | p j =>
      show (updT s.S i (some y) j).isSome = true ↔ (s.S j).isSome = true
      by_cases q : j = i
      · subst q; rw [updT_same, h]; simp
      · rw [updT_ne q]
    | t j =>
      show (updT s.S i (some y) j).isSome = true ↔ (s.S j).isSome = true
      by_cases q : j = i
      · subst q; rw [updT_same, h]; simp
      · rw [updT_ne q]
    | _ => exact Iff.rfl
  funext a
  exact propext ⟨fun ⟨l, a1, a2⟩ => ⟨l, (e l).mp a1, a2⟩, fun ⟨l, a1, a2⟩ => ⟨l, (e l).mpr a1, a2⟩⟩
/-- a page's row goes -/
theorem MdI.drop {i : Nat} (I : MdI H n s) : MdI (upd H (s.ad .d) (.dK (dropK (kvR s.ad s.js) (Sum.inl (i : Int))))) n { s with js := s.js.filter (fun j => decide (j ≠ i)), S := updT s.S i none } := by
  have e : dropK (kvR s.ad s.js) (Sum.inl (i : Int)) = kvR s.ad (s.js.filter fun j => decide (j ≠ i)) := by
    unfold dropK kvR
    rw [List.filter_map]
    congr 1
    refine List.filter_congr fun j _ => ?_
    show decide ((Sum.inl ((j : Nat) : Int) : Key) ≠ Sum.inl (i : Int)) = decide (j ≠ i)
    refine decide_eq_decide.mpr ⟨fun h q => h (by rw [q]), fun h q => h (by injection q with q; omega)⟩
  have lv : ∀ l, liveM (updT s.S i none) l → liveM s.S l ∧ l ≠ .p i ∧ l ≠ .t i := fun l q => by
    cases l with
    | p j =>
      have q' : (updT s.S i none j).isSome = true := q
      by_cases e : j = i
      · subst e; rw [updT_same] at q'; cases q'
      · rw [updT_ne e] at q'; exact ⟨q', (fun z => e (by injection z)), (fun z => nomatch z)⟩
    | t j =>
      have q' : (updT s.S i none j).isSome = true := q
      by_cases e : j = i
      · subst e; rw [updT_same] at q'; cases q'
      · rw [updT_ne e] at q'; exact ⟨q', (fun z => nomatch z), (fun z => e (by injection z))⟩
    | d => exact ⟨trivial, (fun z => nomatch z), (fun z => nomatch z)⟩
    | _ => exact q.elim
  have sn : ∀ j, j ≠ i → sfOf (updT s.S i none) j = sfOf s.S j := fun j e => by unfold sfOf; rw [updT_ne e]
  rw [e]
  refine ⟨fun l hl => ?_, fun l l' h1 h2 e => I.inj l l' (lv l h1).1 (lv l' h2).1 e, ?_, fun j hj => ?_⟩
  · obtain ⟨h1, h2, h3⟩ := lv l hl
    show upd H (s.ad .d) _ (s.ad l) = some (Ms.ob { s with js := s.js.filter (fun j => decide (j ≠ i)), S := updT s.S i none } l)
    by_cases q : l = .d
    · subst q; rw [upd_same]; rfl
    · rw [upd_ne (I.ne (l' := .d) h1 trivial q), I.at_ l h1]
      cases l with
      | d => exact absurd rfl q
      | p j =>
        show some (HO.lst [.int ((sfOf s.S j).z : Nat), .ref (s.ad (.t j))]) = some (HO.lst [.int ((sfOf (updT s.S i none) j).z : Nat), .ref (s.ad (.t j))])
        rw [sn j (fun e => h2 (by rw [e]))]
      | t j =>
        show some (HO.lst ((sfOf s.S j).tk.map V.bl)) = some (HO.lst ((sfOf (updT s.S i none) j).tk.map V.bl))
        rw [sn j (fun e => h3 (by rw [e]))]
      | _ => exact h1.elim
  · have e : pgs (updT s.S i none) n = (pgs s.S n).filter fun j => decide (j ≠ i) := by
      unfold pgs
      rw [List.filter_filter]
      refine List.filter_congr fun j _ => ?_
      by_cases q : j = i
      · subst q; rw [updT_same]; simp
      · rw [updT_ne q]; simp [q]
    show (s.js.filter _).Perm (pgs (updT s.S i none) n)
    rw [e]
    exact I.js.filter _
  · have hj' : (updT s.S i none j).isSome = true := hj
    by_cases e : j = i
    · subst e; rw [updT_same] at hj'; cases hj'
    · rw [updT_ne e] at hj'; exact I.bnd j hj'
theorem footM_drop {i : Nat} {js : List Nat} : ∀ a, footM { s with js := js, S := updT s.S i none } a → footM s a := by
  rintro a ⟨l, hl, e⟩
  refine ⟨l, ?_, e⟩
  cases l with
  | p j =>
    have q' : (updT s.S i none j).isSome = true := hl
    by_cases e : j = i
    · subst e; rw [updT_same] at q'; cases q'
    · rw [updT_ne e] at q'; exact q'
  | t j =>
    have q' : (updT s.S i none j).isSome = true := hl
    by_cases e : j = i
    · subst e; rw [updT_same] at q'; cases q'
    · rw [updT_ne e] at q'; exact q'
  | d => trivial
  | _ => exact hl.elim
/-- a new row comes to a page -/
theorem MdI.add {i : Nat} {x : Sf} {p t : Addr} (I : MdI H n s) (hi : s.S i = none) (hn : i < n) (np : ¬ footM s p) (nt : ¬ footM s t) (hp : H p = some (.lst [.int (x.z : Nat), .ref t])) (ht : H t = some (.lst (x.tk.map V.bl))) (npt : p ≠ t) :
    ∃ s' : Ms, MdI (upd H (s.ad .d) (.dK (putK (kvR s.ad s.js) (Sum.inl (i : Int)) (.ref p)))) n s' ∧ s'.S = updT s.S i (some x) ∧ s'.ad .d = s.ad .d ∧ s'.ad (.t i) = t ∧ s'.ad (.p i) = p ∧ ∀ a, footM s' a → footM s a ∨ a = p ∨ a = t := by
  let ad' : Lb → Addr := fun l => if l = .p i then p else if l = .t i then t else s.ad l
  have a1 : ad' (.p i) = p := if_pos rfl
  have a2 : ad' (.t i) = t := (if_neg (by intro q; cases q)).trans (if_pos rfl)
  have a3 : ∀ l, l ≠ .p i → l ≠ .t i → ad' l = s.ad l := fun l h1 h2 => (if_neg h1).trans (if_neg h2)
  have ad_ : ad' .d = s.ad .d := a3 .d (fun z => nomatch z) (fun z => nomatch z)
  have lv : ∀ l, liveM (updT s.S i (some x)) l → l = .p i ∨ l = .t i ∨ (liveM s.S l ∧ l ≠ .p i ∧ l ≠ .t i) := fun l q => by
    cases l with
    | p j =>
      have q' : (updT s.S i (some x) j).isSome = true := q
      by_cases e : j = i
      · exact .inl (by rw [e])
      · rw [updT_ne e] at q'; exact .inr (.inr ⟨q', (fun z => e (by injection z)), (fun z => nomatch z)⟩)
    | t j =>
      have q' : (updT s.S i (some x) j).isSome = true := q
      by_cases e : j = i
      · exact .inr (.inl (by rw [e]))
      · rw [updT_ne e] at q'; exact .inr (.inr ⟨q', (fun z => nomatch z), (fun z => e (by injection z))⟩)
    | d => exact .inr (.inr ⟨trivial, (fun z => nomatch z), (fun z => nomatch z)⟩)
    | _ => exact q.elim
  have old : ∀ l, liveM s.S l → s.ad l ≠ p ∧ s.ad l ≠ t := fun l h => ⟨(fun e => np ⟨l, h, e⟩), (fun e => nt ⟨l, h, e⟩)⟩
  have nj : ∀ j, j ∈ s.js → j ≠ i := fun j hj e => by have := I.mem_js.mp hj; rw [e, hi] at this; cases this
  have sx : sfOf (updT s.S i (some x)) i = x := sfOf_at updT_same
  have sn : ∀ j, j ≠ i → sfOf (updT s.S i (some x)) j = sfOf s.S j := fun j e => by unfold sfOf; rw [updT_ne e]
  have ek : putK (kvR s.ad s.js) (Sum.inl (i : Int)) (.ref p) = kvR ad' (s.js ++ [i]) := by
    rw [putK_new _ (by rw [valV_kvR, if_neg (fun q => nj i q rfl)])]
    unfold kvR
    rw [List.map_append]
    congr 1
    · refine List.map_congr_left fun j hj => ?_
      rw [a3 (.p j) (fun q => nj j hj (by injection q)) (fun q => nomatch q)]
    · rw [List.map_singleton, a1]
  refine ⟨⟨ad', s.js ++ [i], updT s.S i (some x)⟩, ?_, rfl, ad_, a2, a1, ?_⟩
  · rw [ek]
    refine ⟨fun l hl => ?_, fun l l' h h' e => ?_, ?_, fun j hj => ?_⟩
    · show upd H (s.ad .d) _ (ad' l) = _
      rcases lv l hl with q | q | ⟨q1, q2, q3⟩
      · subst q
        rw [a1, upd_ne (fun q => (old .d trivial).1 q.symm), hp]
        show _ = some (HO.lst [.int ((sfOf (updT s.S i (some x)) i).z : Nat), .ref (ad' (.t i))])
        rw [a2, sx]
      · subst q
        rw [a2, upd_ne (fun q => (old .d trivial).2 q.symm), ht]
        show _ = some (HO.lst ((sfOf (updT s.S i (some x)) i).tk.map V.bl))
        rw [sx]
      · rw [a3 l q2 q3]
        by_cases ed : l = .d
        · subst ed; rw [upd_same]; rfl
        · rw [upd_ne (I.ne (l' := .d) q1 trivial ed), I.at_ l q1]
          cases l with
          | d => exact absurd rfl ed
          | p j =>
            have nj' : j ≠ i := fun q => q2 (by rw [q])
            show some (HO.lst [.int ((sfOf s.S j).z : Nat), .ref (s.ad (.t j))]) = some (HO.lst [.int ((sfOf (updT s.S i (some x)) j).z : Nat), .ref (ad' (.t j))])
            rw [sn j nj', a3 (.t j) (fun q => nomatch q) (fun q => nj' (by injection q))]
          | t j =>
            have nj' : j ≠ i := fun q => q3 (by rw [q])
            show some (HO.lst ((sfOf s.S j).tk.map V.bl)) = some (HO.lst ((sfOf (updT s.S i (some x)) j).tk.map V.bl))
            rw [sn j nj']
          | _ => exact q1.elim
    · have e' : ad' l = ad' l' := e
      rcases lv l h with q | q | ⟨q1, q2, q3⟩ <;> rcases lv l' h' with r | r | ⟨r1, r2, r3⟩
      · rw [q, r]
      · rw [q, r, a1, a2] at e'; exact absurd e' npt
      · rw [q, a1, a3 l' r2 r3] at e'; exact absurd e'.symm (old l' r1).1
      · rw [q, r, a1, a2] at e'; exact absurd e'.symm npt
      · rw [q, r]
      · rw [q, a2, a3 l' r2 r3] at e'; exact absurd e'.symm (old l' r1).2
      · rw [r, a1, a3 l q2 q3] at e'; exact absurd e' (old l q1).1
      · rw [r, a2, a3 l q2 q3] at e'; exact absurd e' (old l q1).2
      · rw [a3 l q2 q3, a3 l' r2 r3] at e'; exact I.inj l l' q1 r1 e'
    · show (s.js ++ [i]).Perm (pgs (updT s.S i (some x)) n)
      have hd : (s.js ++ [i]).Nodup := by
        rw [List.nodup_append]
        refine ⟨(I.js.nodup_iff).mpr (nodup_lt (pgs_lt _ _)), by simp, fun a ha b hb => ?_⟩
        rw [List.mem_singleton] at hb
        rw [hb]; exact nj a ha
      refine (List.perm_ext_iff_of_nodup hd (nodup_lt (pgs_lt _ _))).mpr fun j => ?_
      rw [List.mem_append, List.mem_singleton, mem_pgs, I.mem_js]
      by_cases q : j = i
      · subst q; rw [updT_same]; simp [hn]
      · rw [updT_ne q]
        exact ⟨fun h => h.elim (fun h => ⟨I.bnd j h, h⟩) (fun h => absurd h q), fun h => .inl h.2⟩
    · have hj' : (updT s.S i (some x) j).isSome = true := hj
      by_cases e : j = i
      · rw [e]; exact hn
      · rw [updT_ne e] at hj'; exact I.bnd j hj'
  · rintro a ⟨l, h, e⟩
    have e' : ad' l = a := e
    rcases lv l h with q | q | ⟨q1, q2, q3⟩
    · rw [q, a1] at e'; exact .inr (.inl e'.symm)
    · rw [q, a2] at e'; exact .inr (.inr e'.symm)
    · rw [a3 l q2 q3] at e'; exact .inl ⟨l, q1, e'⟩
end
end Sb
set_option pp.maxSteps 1500
namespace Sb
open PySem PySem.Spec PyProof.Rows L2
theorem MdAt.same {H H' : Hp} {n : Nat} {d : Addr} {F : Addr → Prop} {S : Tb} (M : MdAt H n d F S) (k : Same H H') : MdAt H' n d F S := by
  obtain ⟨s, I, h⟩ := M
  exact ⟨s, I.same k, h⟩
theorem bls_flat : ∀ l : List Bool, (l.map V.bl).all flatV = true
  | [] => rfl
  | b :: l => by rw [List.map_cons, List.all_cons, bls_flat l]; rfl
theorem inV_bl (b : Bool) : ∀ l : List Bool, inV (.bl b) (l.map V.bl) = l.contains b
  | [] => rfl
  | c :: l => by
    have ih := inV_bl b l
    unfold inV at ih ⊢
    rw [List.map_cons, List.any_cons, ih, List.contains_cons]
    cases b <;> cases c <;> rfl
theorem cnt_false {l : List Bool} : l.contains false = true ↔ cnt l < l.length := by
  induction l with
  | nil => simp [cnt]
  | cons b l ih =>
    cases b with
    | false => simp [cnt, List.count_cons]; have := cnt_le l; unfold cnt at this; omega
    | true =>
      rw [List.contains_cons]
      simp only [cnt, List.count_cons, List.length_cons] at ih ⊢
      simp at ih ⊢
      exact ih
theorem cnt_true {l : List Bool} : l.contains true = true ↔ cnt l ≠ 0 := by
  induction l with
  | nil => simp [cnt]
  | cons b l ih =>
    cases b with
    | true => simp [cnt, List.count_cons]
    | false =>
      rw [List.contains_cons]
      simp only [cnt, List.count_cons] at ih ⊢
      simp at ih ⊢
      exact ih
theorem MdI.dgetO {H : Hp} {n : Nat} {s : Ms} (I : MdI H n s) (i : Nat) : DGet H (s.ad .d) (.int (i : Nat)) ((s.S i).map fun _ => V.ref (s.ad (.p i))) := by
  cases e : s.S i with
  | none => exact I.dget_no e
  | some x => exact I.dget e
theorem filt_snoc {p : Nat → Bool} {l : List Nat} {i q : Nat} (h : l[i]? = some q) : (l.take (i + 1)).filter p = (l.take i).filter p ++ (if p q = true then [q] else []) := by
  rw [take_at h, List.filter_append, List.filter_cons, List.filter_nil]
theorem filt_range {p : Nat → Bool} {i : Nat} : (List.range (i + 1)).filter p = (List.range i).filter p ++ (if p i = true then [i] else []) := by
  rw [List.range_succ, List.filter_append, List.filter_cons, List.filter_nil]
theorem nV_snoc (l : List Nat) (i : Nat) : nV (l ++ [i]) = nV l ++ [V.int (i : Nat)] := List.map_append
def pkI : Option Nat → Int
  | none => -1
  | some i => ((i : Nat) : Int)
def sp_law_fullest (K : PySem.W.Frag) (A : Ad) : Sp := fun vs H Q _ => ∃ (d : Addr) (n : Nat) (F : Addr → Prop) (S : Tb) (k : Nat), vs = [.ref d, .int (k : Nat)] ∧ MdAt H n d F S ∧ n ≤ 40 ∧ ∀ H', Same H H' → Q (.int (pkI (pick S n k))) H'
def sp_law_fresh (K : PySem.W.Frag) (A : Ad) : Sp := fun vs H Q _ => ∃ (d : Addr) (n : Nat) (F : Addr → Prop) (S : Tb), vs = [.ref d, .int (n : Nat)] ∧ MdAt H n d F S ∧ n ≤ 40 ∧ (fresh S n = none → ∀ H', Same H H' → Q (.int (-1)) H') ∧ ∀ i S' H' F', fresh S n = some (i, S') → MdAt H' n d F' S' → Stp F H F' H' → Q (.int (i : Nat)) H'
section
variable {P : Program} {w : World} {K : PySem.W.Frag} {mg : Str → Option Value} {base : Heap} {A : Ad}
theorem ok_law_fullest (T : Tx K mg A) : Df P w K mg base 1 "_law_fullest" ["_law_model", "_law_size"] (sp_law_fullest K A) := by
  refine Dd.ok T.d_law_fullest sc_law_fullest bi_law_fullest (fun vs H Q E h => ?_) (fun f cdv Ar outer s H vs Q E hr h => ?_)
  · obtain ⟨d, n, F, S, k, rfl, _⟩ := h; rfl
  · obtain ⟨d, n, F, S, k, rfl, ⟨s, I, rfl, rfl, rfl⟩, hn, kQ⟩ := h
    refine ⟨_, (pss_cons (ps_set (i := 2) sc_law_fullest.nd rfl (Or.inl rfl) (pe_un un_neg pe_int))
    (pss_cons (ps_for (passes_of rfl) rfl (pi_list (pe_callB (call_sortedDI rfl) (by rfl) T.z_sorted (by decide +kernel) (pa_cons (pv 0) pa_nil))) (pg_name (i := 3) sc_law_fullest.nd rfl (Or.inl rfl))
    (pss_cons (ps_set (i := 4) sc_law_fullest.nd rfl (Or.inl rfl) (pe_dget (hu_of hr) (pv 0) (pv 3) (fun _ _ => rfl)))
    (pss_one (ps_if (PW.pt (pw_and (pt_cmpR op_eq (pe_ix ix_list (pv 4) pe_int (fun _ _ => rfl)) (pv 1) (nomark _)) (pw_and1 (pt_cmpR op_in_seq pe_bl (pe_ix ix_list (pv 4) pe_int (fun _ _ => rfl)) rfl)))) (pss_one (ps_if (PW.pt (pw_or (pt_cmpR op_lt (pv 2) pe_int (nomark _)) (pw_or1 (pt_cmpR op_gt (pe_bm PySem.F.plainAttrs_list PySem.F.slot_list_count PySem.F.type_list_count mt_lcountB (pe_ix ix_list (pv 4) pe_int (fun _ _ => rfl)) (pa_cons pe_bl pa_nil)) (pe_bm PySem.F.plainAttrs_list PySem.F.slot_list_count PySem.F.type_list_count mt_lcountB (pe_ix ix_list (pe_dget (hu_of hr) (pv 0) (pv 2) (fun _ _ => rfl)) pe_int (fun _ _ => rfl)) (pa_cons pe_bl pa_nil)) (nomark _))))) (pss_one (ps_set (i := 2) sc_law_fullest.nd rfl (Or.inl rfl) (pv 3)))
    pss_nil))
    pss_nil))))
    (pss_one (ps_ret (pv 2))))), ?_⟩
    obtain ⟨g1, g2, g3⟩ := I.keysD hn
    refine ⟨_, rfl, _, rfl, _, _, _, rfl, .inl I.d, g1, g2, fun ys p h1 h2 hp => ?_⟩
    obtain rfl := g3 ys h1 h2
    rw [castI_V]
    refine ⟨p, rfl, ⟨_, SqL.of upd_same⟩, for_list (K := K) (a := p) (xs := nV (pgs s.S n)) (fun i σ H' => Same H H' ∧ H' p = some (.lst (nV (pgs s.S n))) ∧
      ∃ v3 v4, σ = [some (.ref (s.ad .d)), some (.int (k : Nat)), some (.int (pkI (((pgs s.S n).take i).foldl (pickStep s.S k) none))), v3, v4]) ⟨sm_n hp, upd_same, _, _, rfl⟩ (fun i σ H' _ h => SqL.of h.2.1) ?_ ?_⟩
    · rintro i x σ H' hx ⟨sm, e1, v3, v4, rfl⟩
      obtain ⟨q, hq, rfl⟩ := nV_at hx
      obtain ⟨y, hy⟩ := pgs_at hq
      have I' := I.same sm
      have et := take_at hq
      have ep : ((pgs s.S n).take (i + 1)).foldl (pickStep s.S k) none = pickStep s.S k (((pgs s.S n).take i).foldl (pickStep s.S k) none) q := by rw [et, foldl_snoc']
      have pk : PickOk s.S k (((pgs s.S n).take i).foldl (pickStep s.S k) none) := pickFold_ok _ (fun _ h => nomatch h)
      generalize ((pgs s.S n).take i).foldl (pickStep s.S k) none = b at ep pk
      have fin : ¬ (y.z = k ∧ cnt y.tk < y.tk.length ∧ better s.S b (cnt y.tk) = true) → Same H H' ∧ H' p = some (.lst (nV (pgs s.S n))) ∧
          ∃ v3 v4, [some (V.ref (s.ad .d)), some (.int (k : Nat)), some (.int (pkI b)), some (V.int (q : Nat)), some (.ref (s.ad (.p q)))] = [some (.ref (s.ad .d)), some (.int (k : Nat)), some (.int (pkI (((pgs s.S n).take (i + 1)).foldl (pickStep s.S k) none))), v3, v4] := fun h => by
        have e2 : pickStep s.S k b q = b := by unfold pickStep; rw [hy]; exact if_neg h
        exact ⟨sm, e1, _, _, by rw [ep, e2]⟩
      have yes : y.z = k → cnt y.tk < y.tk.length → better s.S b (cnt y.tk) = true → Same H H' ∧ H' p = some (.lst (nV (pgs s.S n))) ∧
          ∃ v3 v4, [some (V.ref (s.ad .d)), some (.int (k : Nat)), some (.int (q : Nat)), some (V.int (q : Nat)), some (.ref (s.ad (.p q)))] = [some (.ref (s.ad .d)), some (.int (k : Nat)), some (.int (pkI (((pgs s.S n).take (i + 1)).foldl (pickStep s.S k) none))), v3, v4] := fun h1 h2 h3 => by
        have e2 : pickStep s.S k b q = some q := by unfold pickStep; rw [hy]; exact if_pos ⟨h1, h2, h3⟩
        exact ⟨sm, e1, _, _, by rw [ep, e2]; rfl⟩
      refine ⟨_, rfl, _, rfl, _, _, rfl, I'.dget hy, _, rfl, _, _, _, _, rfl, rfl, SqL.of (I'.p hy), at_of (j := 0) (by decide) rfl, _, rfl, rfl, _, rfl, ?_⟩
      refine iteD (fun h1 => ?_) (fun h1 => ?_)
      rotate_left
      · exact fin fun h => h1 (by show V.int ((y.z : Nat) : Int) = V.int ((k : Nat) : Int); rw [h.1])
      have h1' : y.z = k := by
        have h1'' : V.int ((y.z : Nat) : Int) = V.int ((k : Nat) : Int) := h1
        injection h1'' with h1''; exact Int.ofNat.inj h1''
      refine ⟨_, rfl, _, _, _, _, rfl, rfl, SqL.of (I'.p hy), at_of (j := 1) (by decide) rfl, _, _, rfl, .inl (SqL.of (I'.t hy)), rfl, bls_flat _, _, rfl, ?_⟩
      rw [if_neg (by decide), inV_bl]
      refine iteB (fun h2 => ?_) (fun h2 => ?_)
      rotate_left
      · exact fin fun h => by have := cnt_false.mpr h.2.1; rw [h2] at this; cases this
      have h2' := cnt_false.mp h2
      cases b with
      | none =>
        refine ⟨_, rfl, _, _, rfl, rfl, _, rfl, iteD (fun _ => ?_) (fun h => absurd (by decide) h)⟩
        exact ⟨_, rfl, yes h1' h2' rfl⟩
      | some j =>
        obtain ⟨x, hx, _⟩ := pk j rfl
        have ec : cn s.S j = cnt x.tk := by unfold cn; rw [hx]
        refine ⟨_, rfl, _, _, rfl, rfl, _, rfl, iteD (fun h => ?_) (fun _ => ?_)⟩
        · exfalso
          have h' : ((j : Nat) : Int) < 0 := h
          omega
        refine ⟨_, rfl, _, _, _, _, rfl, rfl, SqL.of (I'.p hy), at_of (j := 1) (by decide) rfl, .inl ⟨rfl, _, SqL.of (I'.t hy)⟩, _, _, _, rfl, rfl, SqL.of (I'.t hy), _, rfl, _, rfl, _, _, rfl, I'.dget hx, _, _, _, _, rfl, rfl, SqL.of (I'.p hx), at_of (j := 1) (by decide) rfl, .inl ⟨rfl, _, SqL.of (I'.t hx)⟩, _, _, _, rfl, rfl, SqL.of (I'.t hx), _, _, rfl, rfl, _, rfl, iteD (fun h => ?_) (fun h => ?_)⟩
        · refine ⟨_, rfl, yes h1' h2' ?_⟩
          show decide (cn s.S j < cnt y.tk) = true
          rw [ec]
          exact decide_eq_true (Int.ofNat_lt.mp h)
        · refine fin fun hh => h ?_
          have h3 : decide (cn s.S j < cnt y.tk) = true := hh.2.2
          rw [ec] at h3
          exact Int.ofNat_lt.mpr (of_decide_eq_true h3)
    · rintro σ H' ⟨sm, e1, v3, v4, rfl⟩
      have el : (nV (pgs s.S n)).length = (pgs s.S n).length := List.length_map _
      rw [el, List.take_length]
      exact ⟨_, rfl, kQ H' sm⟩
theorem ok_law_fresh (T : Tx K mg A) : Df P w K mg base 1 "_law_fresh" ["_law_model", "_law_pages"] (sp_law_fresh K A) := by
  refine Dd.ok T.d_law_fresh sc_law_fresh bi_law_fresh (fun vs H Q E h => ?_) (fun f cdv Ar outer s H vs Q E hr h => ?_)
  · obtain ⟨d, n, F, S, rfl, _⟩ := h; rfl
  · obtain ⟨d, n, F, S, rfl, ⟨s, I, rfl, rfl, rfl⟩, hn, kN, kQ⟩ := h
    refine ⟨_, (pss_cons (ps_setLc (i := 2) (own := [("_law_page", 3)]) (g := gName 3) (tt := (tB (tDNotIn (tVar 3) (tVar 0)))) (te := (tVar 3)) rfl sc_law_fresh.nd rfl rfl (sw_true rfl rfl rfl (by decide +kernel)) (pi_range1 (by rfl) T.z_range (pa_cons (pv 1) pa_nil)) (blkOk_by (own := [("_law_page", 3)]) (N := ["_law_model", "_law_pages", "_law_bare", "_law_page", "_law_empty"]) (sc := defScope s_law_fresh) (by decide +kernel)) (fun _ _ _ _ _ => pg_name (i := 3) sc_law_fresh.nd rfl (Or.inl rfl)) (fun _ _ _ _ _ => pts_one (pt_cmp (pc_dnotin (hu_of hr) (pv 3) (pv 0)))) (fun _ _ _ _ _ => (pv 3)))
    (pss_cons (ps_setLc (i := 4) (own := [("_law_page", 3)]) (g := gName 3) (tt := (tTest (tOp (rIn K true) (tC (.bl true)) (tOp (rIxL K) (tDGet (tVar 0) (tVar 3)) (tC (.int 1)))))) (te := (tVar 3)) rfl sc_law_fresh.nd rfl rfl (sw_true rfl rfl rfl (by decide +kernel)) (pi_list (pe_callB (call_sortedDI rfl) (by rfl) T.z_sorted (by decide +kernel) (pa_cons (pv 0) pa_nil))) (blkOk_by (own := [("_law_page", 3)]) (N := ["_law_model", "_law_pages", "_law_bare", "_law_page", "_law_empty"]) (sc := defScope s_law_fresh) (by decide +kernel)) (fun _ _ _ _ _ => pg_name (i := 3) sc_law_fresh.nd rfl (Or.inl rfl)) (fun _ _ _ _ _ => pts_one (pt_cmpR op_notIn_seq pe_bl (pe_ix ix_list (pe_dget (hu_of hr) (pv 0) (pv 3) (fun _ _ => rfl)) pe_int (fun _ _ => rfl)) rfl)) (fun _ _ _ _ _ => (pv 3)))
    (pss_cons (ps_if (pt_cmpR (op_neD hr.units) (pv 2) (pe_lst pa_nil) (nomark _)) (pss_one (ps_ret (pe_ix ix_list (pv 2) pe_int (fun _ _ => rfl))))
    pss_nil)
    (pss_cons (ps_if (pt_cmpR (op_neD hr.units) (pv 4) (pe_lst pa_nil) (nomark _)) (pss_cons (ps_expr (pe_dpop1 (pv 0) (pe_ix ix_list (pv 4) pe_int (fun _ _ => rfl)) ⟨by rfl, by rfl, by rfl, by rfl⟩))
    (pss_one (ps_ret (pe_ix ix_list (pv 4) pe_int (fun _ _ => rfl)))))
    pss_nil)
    (pss_one (ps_ret (pe_un un_neg pe_int))))))), ?_⟩
    refine ⟨_, rfl, _, rfl, (by omega), (by omega), fun D hD => lc_range (Pv := fun i H' => Same H H' ∧ H' D = some (.lst (nV ((List.range i).filter fun q => (s.S q).isNone)))) ⟨sm_n hD, upd_same⟩ ?_ ?_⟩
    · rintro i H' hi ⟨sm, e1⟩
      have I' := I.same sm
      rw [Int.zero_add]
      refine ⟨rfl, ?_⟩
      have hi' : i < n := by omega
      have em : (((s.S i).map fun _ => V.ref (s.ad (.p i))).isSome) = (s.S i).isSome := by cases s.S i <;> rfl
      refine ⟨_, rfl, _, rfl, _, _, rfl, I'.dgetO i, _, rfl, ?_⟩
      rw [em]
      refine iteNB (fun h => ?_) (fun h => ?_)
      · refine ⟨_, rfl, _, e1, ?_, sm_new sm hD, ?_⟩
        · rw [List.length_map]
          refine Nat.lt_of_le_of_lt (List.length_filter_le _ _) ?_
          rw [List.length_range]
          exact Nat.lt_of_le_of_lt (Nat.le_of_lt (Nat.lt_of_lt_of_le hi' hn)) (by decide)
        · have : (s.S i).isNone = true := by cases e : s.S i with
            | none => rfl
            | some x => rw [e] at h; cases h
          rw [upd_same, filt_range, if_pos this, nV_snoc]
      · refine ⟨sm, ?_⟩
        have : ¬ (s.S i).isNone = true := by cases e : s.S i with
          | none => rw [e] at h; cases h
          | some x => intro h; cases h
        rw [e1, filt_range, if_neg this, List.append_nil]
    · rintro H1 ⟨sm1, e1⟩
      have I1 := I.same sm1
      have e1' : H1 D = some (.lst ((castI (nones s.S n)).map V.int)) := by rw [castI_V]; exact e1
      obtain ⟨g1, g2, g3⟩ := I1.keysD hn
      refine ⟨_, rfl, _, _, _, rfl, .inl I1.d, g1, g2, fun ys p h1 h2 hp => ?_⟩
      obtain rfl := g3 ys h1 h2
      rw [castI_V]
      refine ⟨p, rfl, ⟨_, SqL.of upd_same⟩, fun D2 hD2 => ?_⟩
      have hD20 : H1 D2 = none := by rw [upd_ne (fun e => by rw [e, upd_same] at hD2; cases hD2)] at hD2; exact hD2
      have npD : p ≠ D2 := fun e => by rw [e, upd_same] at hD2; cases hD2
      refine lc_list (K := K) (a := p) (xs := nV (pgs s.S n)) (fun i H' => Same H1 H' ∧ H' p = some (.lst (nV (pgs s.S n))) ∧ H' D2 = some (.lst (nV (((pgs s.S n).take i).filter (isEmp s.S))))) ⟨?_, ?_, upd_same⟩ (fun i H' _ h => SqL.of h.2.1) ?_ ?_
      · exact sm_new (sm_n hp) hD20
      · rw [upd_ne npD]; exact upd_same
      · rintro i x H' hx ⟨sm, e2, e3⟩
        obtain ⟨k, hk, rfl⟩ := nV_at hx
        obtain ⟨y, hy⟩ := pgs_at hk
        have I' := I1.same sm
        refine ⟨rfl, ?_⟩
        refine ⟨_, rfl, _, rfl, _, _, rfl, I'.dget hy, _, _, _, _, rfl, rfl, SqL.of (I'.p hy), at_of (j := 1) (by decide) rfl, _, _, rfl, .inl (SqL.of (I'.t hy)), rfl, bls_flat _, _, rfl, ?_⟩
        rw [if_pos rfl, inV_bl]
        have ee := isEmp_at hy
        refine iteNB (fun h => ?_) (fun h => ?_)
        · have h0 : cnt y.tk = 0 := Nat.eq_zero_of_not_pos fun q => by
            have := cnt_true.mpr (Nat.pos_iff_ne_zero.mp q)
            rw [h] at this; cases this
          refine ⟨_, rfl, _, e3, ?_, sm_new sm hD20, ?_, ?_⟩
          · rw [List.length_map]
            refine Nat.lt_of_le_of_lt (List.length_filter_le _ _) ?_
            rw [List.length_take]
            exact Nat.lt_of_le_of_lt (Nat.le_trans (Nat.min_le_right _ _) (Nat.le_trans (pgs_len _ _) hn)) (by decide)
          · rw [upd_ne npD]; exact e2
          · rw [upd_same, filt_snoc hk, if_pos (by rw [ee]; exact decide_eq_true h0), nV_snoc]
        · have h0 := cnt_true.mp h
          refine ⟨sm, e2, ?_⟩
          rw [e3, filt_snoc hk, if_neg (by rw [ee, decide_eq_false h0]; decide), List.append_nil]
      · rintro H2 ⟨sm2, e2, e3⟩
        have el : (nV (pgs s.S n)).length = (pgs s.S n).length := List.length_map _
        rw [el, List.take_length, emps_pgs] at e3
        have e3' : H2 D2 = some (.lst ((castI (emps s.S n)).map V.int)) := by rw [castI_V]; exact e3
        have I2 := I1.same sm2
        have sm12 : Same H H2 := fun b o e => sm2 _ _ (sm1 _ _ e)
        refine ⟨_, rfl, (by decide), fun e he => ?_⟩
        have eb := sm2 _ _ e1'
        have ne : D ≠ e := fun z => by rw [z, he] at eb; cases eb
        have ne2 : D2 ≠ e := fun z => by rw [z, he] at e3; cases e3
        refine ⟨_, _, dp_ints (SqL.of (by rw [upd_ne ne]; exact eb)), dp_ints (l := []) (SqL.of upd_same), (sh_ints _).shaped (by decide), (sh_ints _).shaped (by decide), _, rfl, ?_⟩
        rw [eqv_nil]
        refine iteND (fun hb => ?_) (fun hb => ?_)
        · have hn0 : nones s.S n ≠ [] := fun q => hb (by rw [q]; rfl)
          obtain ⟨i, r, er⟩ := List.exists_cons_of_ne_nil hn0
          have ef : fresh s.S n = some (i, s.S) := by unfold fresh; rw [er]
          refine ⟨_, rfl, _, _, _, .int (i : Nat), rfl, rfl, SqL.of (by rw [upd_ne ne]; exact eb), at_of (j := 0) (by decide) (by rw [er]; rfl), ?_⟩
          refine kQ i s.S _ (footM s) ef ⟨s, I2.same (sm_n he), rfl, rfl, rfl⟩ (Stp.same ?_)
          exact fun b o e' => sm_n he _ _ (sm12 _ _ e')
        · have hn0 : nones s.S n = [] := List.map_eq_nil_iff.mp hb
          have I3 := I2.same (sm_n (o := .lst []) he)
          refine ⟨_, rfl, (by decide), fun e' he' => ?_⟩
          have ne2' : D2 ≠ e' := fun z => by rw [← z, upd_ne ne2, e3] at he'; cases he'
          have eD2 : upd (upd H2 e (.lst [])) e' (.lst []) D2 = some (.lst ((castI (emps s.S n)).map V.int)) := by rw [upd_ne ne2', upd_ne ne2]; exact e3'
          refine ⟨_, _, dp_ints (SqL.of eD2), dp_ints (l := []) (SqL.of upd_same), (sh_ints _).shaped (by decide), (sh_ints _).shaped (by decide), _, rfl, ?_⟩
          rw [eqv_nil]
          have smA : Same H (upd (upd H2 e (.lst [])) e' (.lst [])) := fun b o eb => sm_n he' _ _ (sm_n he _ _ (sm12 _ _ eb))
          have I4 := I3.same (sm_n (o := .lst []) he')
          refine iteND (fun hm => ?_) (fun hm => ?_)
          · have em : emps s.S n ≠ [] := fun q => hm (by rw [q]; rfl)
            obtain ⟨i, r, er⟩ := List.exists_cons_of_ne_nil em
            have ef : fresh s.S n = some (i, updT s.S i none) := by unfold fresh; rw [hn0, er]
            have hi : isEmp s.S i = true := (mem_emps.mp (by rw [er]; exact List.mem_cons_self)).2
            have his : (s.S i).isSome = true := by
              unfold isEmp at hi
              cases e : s.S i with
              | none => rw [e] at hi; cases hi
              | some x => rfl
            have ev : valV (kvR s.ad s.js) (Sum.inl (i : Int)) = some (V.ref (s.ad (.p i))) := by rw [valV_kvR, if_pos (I4.mem_js.mpr his)]
            have nd2 : D2 ≠ s.ad .d := fun q => by rw [q] at eD2; have := I4.d.symm.trans eD2; cases this
            refine ⟨_, rfl, _, rfl, .inl ⟨_, .inl I4.d⟩, _, rfl, _, _, _, .int (i : Nat), rfl, rfl, SqL.of eD2, at_of (j := 0) (by decide) (by rw [er]; rfl), ?_⟩
            refine ⟨_, _, _, I4.d, rfl, ev, ?_⟩
            refine ⟨_, rfl, _, _, _, .int (i : Nat), rfl, rfl, SqL.of (by rw [upd_ne nd2]; exact eD2), at_of (j := 0) (by decide) (by rw [er]; rfl), ?_⟩
            refine kQ i _ _ _ ef ⟨_, I4.drop (i := i), rfl, rfl, rfl⟩ ((Stp.same smA).trans ⟨fun a o e n => ?_, fun a q => .inl (footM_drop a q)⟩)
            rw [upd_ne (fun q => n ⟨.d, trivial, q.symm⟩)]; exact e
          · have em : emps s.S n = [] := List.map_eq_nil_iff.mp hm
            exact ⟨_, rfl, kN (by unfold fresh; rw [hn0, em]) _ smA⟩
end
end Sb
set_option pp.maxSteps 1500
namespace Sb
open PySem PySem.Spec PyProof.Rows L2
def sp_law_wished (K : PySem.W.Frag) (A : Ad) : Sp := fun vs H Q _ => ∃ (d q0 zs : Addr) (m : PlM) (F : Addr → Prop) (S : Tb) (w : Int), vs = [.ref d, .ref q0, .int w] ∧ MdAt H m.n d F S ∧ m.Ok ∧ SOk m S ∧ H q0 = some (.tup [.int m.pages, .int m.length, .ref zs]) ∧ H zs = some (.lst (m.sizes.map V.int)) ∧ (sizeFor m.sizes w = none → Q (.int (-2)) H) ∧
  ∀ k : Nat, sizeFor m.sizes w = some (k : Int) → (wishT m S k = none → ∀ H', Same H H' → Q (.int (-1)) H') ∧ ∀ pg j S' H' F', wishT m S k = some (pg, j, S') → MdAt H' m.n d F' S' → Stp F H F' H' → Q (.int (pg * m.L + j * k : Nat)) H'
def sp_law_places (K : PySem.W.Frag) (A : Ad) : Sp := fun vs H Q _ => ∃ (d : Addr) (m : PlM) (F : Addr → Prop) (S : Tb), vs = [.ref d, .int m.length] ∧ MdAt H m.n d F S ∧ m.Ok ∧ SOk m S ∧ ∀ q H', H q = none → TupP H' q (thingsOf m S) → Same H H' → Q (.ref q) H'
def sp_law_left (K : PySem.W.Frag) (A : Ad) : Sp := fun vs H Q _ => ∃ (d q0 zs : Addr) (m : PlM) (F : Addr → Prop) (S : Tb) (k : Nat), vs = [.ref d, .ref q0, .int (k : Nat)] ∧ MdAt H m.n d F S ∧ m.Ok ∧ SOk m S ∧ (k : Int) ∈ m.sizes ∧ H q0 = some (.tup [.int m.pages, .int m.length, .ref zs]) ∧ Q (.int (roomFor m S k : Nat)) H
section
variable {P : Program} {w : World} {K : PySem.W.Frag} {mg : Str → Option Value} {base : Heap} {A : Ad}
theorem ok_law_wished (T : Tx K mg A) : Df P w K mg base 2 "_law_wished" ["_law_model", "_law_drawn", "_law_wish"] (sp_law_wished K A) := by
  refine Dd.ok T.d_law_wished sc_law_wished bi_law_wished (fun vs H Q E h => ?_) (fun f cdv Ar outer s H vs Q E hr h => ?_)
  · obtain ⟨d, q0, zs, m, F, S, w, rfl, _⟩ := h; rfl
  · obtain ⟨d, q0, zs, m, F, S, w, rfl, M, mok, ok, hq0, hzs, kN, kk⟩ := h
    refine ⟨_, (pss_cons (ps_set (i := 3) sc_law_wished.nd rfl (Or.inl rfl) (pe_df (ok_law_size_by T) hr (by decide) (by rfl) (pa_cons (pe_ix ix_tup (pv 1) pe_int (fun _ _ => rfl)) (pa_cons (pv 2) pa_nil))))
    (pss_cons (ps_if (pt_cmpR op_eq (pv 3) pe_int (nomark _)) (pss_one (ps_ret (pe_un un_neg pe_int)))
    pss_nil)
    (pss_cons (ps_set (i := 4) sc_law_wished.nd rfl (Or.inl rfl) (pe_df (ok_law_fullest T) hr (by decide) (by rfl) (pa_cons (pv 0) (pa_cons (pv 3) pa_nil))))
    (Evl.pss_cut (ps_if (pt_cmpR op_lt (pv 4) pe_int (nomark _)) (pss_cons (ps_set (i := 4) sc_law_wished.nd rfl (Or.inl rfl) (pe_df (ok_law_fresh T) hr (by decide) (by rfl) (pa_cons (pv 0) (pa_cons (pe_ix ix_tup (pv 1) pe_int (fun _ _ => rfl)) pa_nil))))
    (pss_cons (ps_if (pt_cmpR op_lt (pv 4) pe_int (nomark _)) (pss_one (ps_ret (pe_un un_neg pe_int)))
    pss_nil)
    (pss_one (ps_dput (hu_of hr) (pv 0) (pv 4) (pe_lst (pa_cons (pv 3) (pa_cons (pe_op op_rep (pe_lst (pa_cons pe_bl pa_nil)) (pe_op op_fdiv (pe_ix ix_tup (pv 1) pe_int (fun _ _ => rfl)) (pv 3))) pa_nil))) rfl))))
    pss_nil)
    (pss_cons (ps_set (i := 5) sc_law_wished.nd rfl (Or.inl rfl) (pe_bm PySem.F.plainAttrs_list PySem.F.slot_list_index PySem.F.type_list_index mt_index (pe_ix ix_list (pe_dget (hu_of hr) (pv 0) (pv 4) (fun _ _ => rfl)) pe_int (fun _ _ => rfl)) (pa_cons pe_bl pa_nil)))
    (pss_cons (ps_asg pe_bl (pg_sub (pe_ix ix_list (pe_dget (hu_of hr) (pv 0) (pv 4) (fun _ _ => rfl)) pe_int (fun _ _ => rfl)) (pv 5) set_list))
    (pss_one (ps_ret (pe_op op_add (pe_op op_mul (pv 4) (pe_ix ix_tup (pv 1) pe_int (fun _ _ => rfl))) (pe_op op_mul (pv 5) (pv 3))))))))))), ?_⟩
    have nq0 : ¬ F q0 := by
      obtain ⟨s, I, _, _, rfl⟩ := M
      exact I.noTup hq0
    refine ⟨_, rfl, q0, _, _, .ref zs, rfl, rfl, .inl (.inl hq0), at_of (j := 2) (by decide) rfl, _, rfl, zs, m.sizes, w, rfl, SqL.of hzs, ?_⟩
    cases hs : sizeFor m.sizes w with
    | none =>
      have e0 : sizeByL m.sizes w = 0 := by unfold sizeByL; rw [hs]; rfl
      rw [e0]
      refine ⟨_, rfl, rfl, _, rfl, iteD (fun _ => ?_) (fun h => absurd rfl h)⟩
      exact ⟨_, rfl, kN hs⟩
    | some k0 =>
      have hmem := sizeFor_mem hs
      obtain ⟨k, rfl⟩ := mok.nat hmem
      have hz := mok.zr hmem
      have hl60 := mok.L60
      have hn40 := plen m mok
      have e0 : sizeByL m.sizes w = (k : Int) := by unfold sizeByL; rw [hs]; rfl
      rw [e0]
      obtain ⟨kF, kQ⟩ := kk k hs
      refine ⟨_, rfl, rfl, _, rfl, iteD (fun h => ?_) (fun _ => ?_)⟩
      · exfalso
        have h' : V.int ((k : Nat) : Int) = V.int 0 := h
        injection h' with h'; omega
      refine ⟨_, rfl, _, rfl, d, m.n, F, S, k, rfl, M, hn40, fun H1 sm1 => ?_⟩
      have M1 := M.same sm1
      refine ⟨fun σ H' => ∃ (i : Nat) (S1 : Tb) (F1 : Addr → Prop), shelfFor S m.n k (m.L / k) = some (i, S1) ∧ MdAt H' m.n d F1 S1 ∧ Stp F H F1 H' ∧ σ = [some (.ref d), some (.ref q0), some (.int w), some (.int (k : Nat)), some (.int (i : Nat)), none], ?_, ?_⟩
      · cases ep : pick S m.n k with
        | some i =>
          refine ⟨_, rfl, _, _, rfl, rfl, _, rfl, iteD (fun h => ?_) (fun _ => ?_)⟩
          · exfalso
            have h' : ((i : Nat) : Int) < 0 := h
            omega
          exact ⟨i, S, F, by unfold shelfFor; rw [ep], M1, Stp.same sm1, rfl⟩
        | none =>
          refine ⟨_, rfl, _, _, rfl, rfl, _, rfl, iteD (fun _ => ?_) (fun h => absurd (by decide) h)⟩
          refine ⟨_, rfl, _, rfl, q0, _, _, .int m.pages, rfl, rfl, .inl (.inl (sm1 _ _ hq0)), at_of (j := 0) (by decide) rfl, d, m.n, F, S, (by rw [mok.en]; rfl), M1, hn40, fun hf H2 sm2 => ?_, fun i S1 H2 F2 hf M2 st2 => ?_⟩
          · refine ⟨_, rfl, _, _, rfl, rfl, _, rfl, iteD (fun _ => ?_) (fun h => absurd (by decide) h)⟩
            exact ⟨_, rfl, kF (by have : shelfFor S m.n k (m.L / k) = none := by { unfold shelfFor; rw [ep, hf] }; unfold wishT; rw [this]) H2 (fun b o e => sm2 _ _ (sm1 _ _ e))⟩
          · refine ⟨_, rfl, _, _, rfl, rfl, _, rfl, iteD (fun h => ?_) (fun _ => ?_)⟩
            · exfalso
              have h' : ((i : Nat) : Int) < 0 := h
              omega
            obtain ⟨hin, hi0, _⟩ := fresh_ok hf
            have hq2 := st2.1 _ _ (sm1 _ _ hq0) nq0
            obtain ⟨s, I, rfl, rfl, rfl⟩ := M2
            have hk60 : m.L / k ≤ 60 := Nat.le_trans (Nat.div_le_self _ _) hl60
            refine ⟨_, rfl, (by decide), fun l hl => ?_⟩
            have hql : upd H2 l (.lst [.bl false]) q0 = some (.tup [.int m.pages, .int m.length, .ref zs]) := sm_n hl _ _ hq2
            refine ⟨_, rfl, q0, _, _, .int m.length, rfl, rfl, .inl (.inl hql), at_of (j := 1) (by decide) rfl, _, rfl, _, _, rfl, rfl, ⟨by omega, by omega⟩, ?_⟩
            refine ⟨l, ((m.L / k : Nat) : Int), _, rfl, (by show V.int (m.length / (k : Int)) = _; rw [per_cast mok]), upd_same, (by generalize m.L / k = u at hk60 ⊢; omega), (by generalize m.L / k = u at hk60 ⊢; omega), ?_, fun t ht => ?_⟩
            · show 1 * ((m.L / k : Nat) : Int).toNat ≤ sizeLine
              exact Nat.le_trans (by rw [Int.toNat_natCast]; omega) (by decide : 1000 ≤ sizeLine)
            refine ⟨(by show 2 ≤ sizeLine; decide), fun p hp => ?_⟩
            have nlt : l ≠ t := fun e => by rw [e, upd_same] at ht; cases ht
            have ntp : t ≠ p := fun e => by rw [e, upd_same] at hp; cases hp
            have ht0 : H2 t = none := by rw [upd_ne nlt.symm] at ht; exact ht
            have nlp : l ≠ p := fun e => by rw [e, upd_ne (by rw [← e]; exact nlt), upd_same] at hp; cases hp
            have hp0 : H2 p = none := by rw [upd_ne ntp.symm, upd_ne nlp.symm] at hp; exact hp
            have smN : Same H2 (upd (upd (upd H2 l (.lst [.bl false])) t (.lst (List.replicate ((m.L / k : Nat) : Int).toNat [V.bl false]).flatten)) p (.lst [.int (k : Nat), .ref t])) := fun b o e => sm_n hp _ _ (sm_n ht _ _ (sm_n hl _ _ e))
            have I3 := I.same smN
            have eT : (List.replicate ((m.L / k : Nat) : Int).toNat [V.bl false]).flatten = (List.replicate (m.L / k) false).map V.bl := by rw [Int.toNat_natCast, List.flatten_replicate_singleton, List.map_replicate]
            obtain ⟨s', I', eS, eD, eT', eP, eF⟩ := I3.add (x := ⟨k, List.replicate (m.L / k) false⟩) (p := p) (t := t) hi0 hin (I.nofoot hp0) (I.nofoot ht0) upd_same (by rw [upd_ne ntp, upd_same, eT]) ntp.symm
            refine ⟨_, rfl, _, rfl, _, _, rfl, DPut.k (k := Sum.inl (i : Int)) I3.d ?_, ?_⟩
            · unfold kvR
              rw [List.length_map, I.js.length_eq]
              exact Nat.lt_of_le_of_lt (Nat.le_trans (pgs_len _ _) hn40) (by decide)
            refine ⟨i, _, footM s', ?_, ⟨s', I', eD, eS, rfl⟩, ?_, rfl⟩
            · unfold shelfFor; rw [ep, hf]
            · refine ((Stp.same sm1).trans st2).trans ⟨fun a o e n => ?_, fun a q => ?_⟩
              · rw [upd_ne (fun q => n ⟨.d, trivial, q.symm⟩)]
                exact smN _ _ e
              · rcases eF a q with q | q | q
                · exact .inl q
                · rw [q]; exact .inr hp0
                · rw [q]; exact .inr ht0
      · rintro σ H' ⟨i, S1, F1, hsf, ⟨s, I, rfl, rfl, rfl⟩, st, rfl⟩
        obtain ⟨x, hx, xz, xc⟩ := shelfFor_ok (per1 hz.1 hz.2) hsf
        obtain ⟨j, hj⟩ := ff_ex xc
        have hjl := ff_lt hj
        have hq' := st.1 _ _ hq0 nq0
        refine ⟨_, rfl, _, rfl, _, _, rfl, I.dget hx, _, _, _, _, rfl, rfl, SqL.of (I.p hx), at_of (j := 1) (by decide) rfl, .inl ⟨rfl, _, SqL.of (I.t hx)⟩, _, _, _, j, .bl false, rfl, rfl, SqL.of (I.t hx), rfl, bls_flat _, bl_at (ff_at hj), rfl, (fun m' z' hm hz' => ?_), ?_⟩
        · rw [bl_at (ff_before hj m' hm)] at hz'
          cases hz'; rfl
        refine ⟨_, rfl, _, rfl, _, _, rfl, I.dget hx, _, _, _, _, rfl, rfl, SqL.of (I.p hx), at_of (j := 1) (by decide) rfl, _, rfl, _, _, _, j, rfl, rfl, I.t hx, ?_, ?_⟩
        · rw [List.length_map]; exact ixN_at hjl
        have I2 := I.setT (y := ⟨k, x.tk.set j true⟩) hx xz.symm
        have eset : (x.tk.map V.bl).set j (.bl true) = (x.tk.set j true).map V.bl := by rw [List.map_set]
        have lt : liveM s.S (.t i) := by show (s.S i).isSome = true; rw [hx]; rfl
        have nqt : q0 ≠ s.ad (.t i) := fun q => I.noTup hq' ⟨_, lt, q.symm⟩
        rw [eset]
        have hq2 : upd H' (s.ad (.t i)) (.lst ((x.tk.set j true).map V.bl)) q0 = some (.tup [.int m.pages, .int m.length, .ref zs]) := by rw [upd_ne nqt]; exact hq'
        have hjz : j < m.L / k ∨ True := .inr trivial
        refine ⟨_, rfl, _, rfl, q0, _, _, .int m.length, rfl, rfl, .inl (.inl hq2), at_of (j := 1) (by decide) rfl, _, _, rfl, rfl, .inr ⟨?_, ?_⟩, _, rfl, _, rfl, _, _, rfl, rfl, .inr ⟨?_, ?_⟩, _, _, rfl, rfl, ?_⟩
        · rw [mok.eL]; omega
        · rw [mok.eL]; omega
        · show -(2 ^ 64) < ((k : Nat) : Int); omega
        · show ((k : Nat) : Int) < 2 ^ 64; omega
        have e : ((i : Nat) : Int) * m.length + (j : Nat) * (k : Nat) = ((i * m.L + j * k : Nat) : Int) := by
          rw [mok.eL]; simp
        show Q (V.int (((i : Nat) : Int) * m.length + (j : Nat) * (k : Nat))) _
        rw [e]
        refine kQ i j (updT s.S i (some ⟨k, x.tk.set j true⟩)) _ _ ?_ ⟨_, I2, rfl, rfl, rfl⟩ (st.trans ?_)
        · unfold wishT; rw [hsf]; dsimp only; rw [sfOf_at hx, hj]
        · rw [footM_set hx]
          exact ⟨fun a o e n => by rw [upd_ne (fun q => n ⟨_, lt, q.symm⟩)]; exact e, fun _ h => .inl h⟩
theorem ok_law_places (T : Tx K mg A) : Df P w K mg base 1 "_law_places" ["_law_model", "_law_length"] (sp_law_places K A) := by
  refine Dd.ok T.d_law_places sc_law_places bi_law_places (fun vs H Q E h => ?_) (fun f cdv Ar outer s H vs Q E hr h => ?_)
  · obtain ⟨d, m, F, S, rfl, _⟩ := h; rfl
  · obtain ⟨d, m, F, S, rfl, ⟨s, I, rfl, rfl, rfl⟩, hok, ok, k⟩ := h
    refine ⟨_, (pss_cons (ps_set (i := 2) sc_law_places.nd rfl (Or.inl rfl) (pe_lst pa_nil))
    (pss_cons (ps_for (passes_of rfl) rfl (pi_list (pe_callB (call_sortedDI rfl) (by rfl) T.z_sorted (by decide +kernel) (pa_cons (pv 0) pa_nil))) (pg_name (i := 3) sc_law_places.nd rfl (Or.inl rfl))
    (pss_cons (ps_set (i := 4) sc_law_places.nd rfl (Or.inl rfl) (pe_dget (hu_of hr) (pv 0) (pv 3) (fun _ _ => rfl)))
    (pss_one (ps_for (passes_of rfl) rfl (pi_range1 (by rfl) T.z_range (pa_cons (pe_callB call_len_seq (by rfl) T.z_len (by decide +kernel) (pa_cons (pe_ix ix_list (pv 4) pe_int (fun _ _ => rfl)) pa_nil)) pa_nil)) (pg_name (i := 5) sc_law_places.nd rfl (Or.inl rfl))
    (pss_one (ps_if (pt_val (pe_ix ix_list (pe_ix ix_list (pv 4) pe_int (fun _ _ => rfl)) (pv 5) (fun _ _ => rfl))) (pss_one (ps_expr (pe_bm PySem.F.plainAttrs_list PySem.F.slot_list_append PySem.F.type_list_append mt_append (pv 2) (pa_cons (pe_tup (pa_cons (pe_op op_add (pe_op op_mul (pv 3) (pv 1)) (pe_op op_mul (pv 5) (pe_ix ix_list (pv 4) pe_int (fun _ _ => rfl)))) (pa_cons (pe_ix ix_list (pv 4) pe_int (fun _ _ => rfl)) pa_nil))) pa_nil))))
    pss_nil))))))
    (pss_one (ps_ret (pv 2))))), ?_⟩
    have hL := hok.eL
    have hl60 := hok.L60
    refine ⟨(by decide), fun D hD => ?_⟩
    have I0 := I.same (sm_n (o := .lst []) hD)
    obtain ⟨g1, g2, g3⟩ := I0.keysD (plen m hok)
    refine ⟨_, rfl, _, _, _, rfl, .inl I0.d, g1, g2, fun ys p h1 h2 hp => ?_⟩
    obtain rfl := g3 ys h1 h2
    rw [castI_V]
    have npD : p ≠ D := fun e => by rw [e, upd_same] at hp; cases hp
    have hp0 : H p = none := by rw [upd_ne npD] at hp; exact hp
    have len40 : ∀ i, (((pgs s.S m.n).take i).flatMap fun i => thingsOn m s.S i (m.L / (sfOf s.S i).z)).length ≤ 2400 := fun i => by
      refine Nat.le_trans (len_flatMap_le _ 60 _ fun x _ => Nat.le_trans (thingsOn_len _ _ _ _) (Nat.le_trans (Nat.div_le_self _ _) hok.L60)) ?_
      have : ((pgs s.S m.n).take i).length ≤ 40 := by
        rw [List.length_take]
        exact Nat.le_trans (Nat.min_le_right _ _) (Nat.le_trans (pgs_len _ _) (plen m hok))
      omega
    refine ⟨p, rfl, ⟨_, SqL.of upd_same⟩, for_list (K := K) (a := p) (xs := nV (pgs s.S m.n)) (fun i σ H' => Same H H' ∧ H' p = some (.lst (nV (pgs s.S m.n))) ∧ TupP H' D (((pgs s.S m.n).take i).flatMap fun i => thingsOn m s.S i (m.L / (sfOf s.S i).z)) ∧
      ∃ v3 v4 v5, σ = [some (.ref (s.ad .d)), some (.int m.length), some (.ref D), v3, v4, v5]) ⟨sm_new (sm_n hD) hp0, upd_same, ?_, _, _, _, rfl⟩ (fun i σ H' _ h => SqL.of h.2.1) ?_ ?_⟩
    · refine TupL.nil ?_
      rw [upd_ne npD.symm]; exact upd_same
    · rintro i x σ H' hx ⟨sm, e1, e2, v3, v4, v5, rfl⟩
      obtain ⟨q, hq, rfl⟩ := nV_at hx
      obtain ⟨y, hy⟩ := pgs_at hq
      have I' := I.same sm
      obtain ⟨x1, x2, x3⟩ := ok _ _ hy
      have hz := hok.zr x2
      have es : sfOf s.S q = y := sfOf_at hy
      have hd60 : y.tk.length ≤ 60 := by rw [x3]; exact Nat.le_trans (Nat.div_le_self _ _) hok.L60
      have elen : (y.tk.map V.bl).length = y.tk.length := List.length_map _
      refine ⟨_, rfl, _, rfl, _, _, rfl, I'.dget hy, _, rfl, _, _, _, _, rfl, rfl, SqL.of (I'.p hy), at_of (j := 1) (by decide) rfl, _, _, rfl, .inl (SqL.of (I'.t hy)), _, rfl, (by rw [elen]; omega), (by rw [elen]; omega), for_range (lo := 0) (n := _) (fun j σ H' => Same H H' ∧ H' p = some (.lst (nV (pgs s.S m.n))) ∧ TupP H' D ((((pgs s.S m.n).take i).flatMap fun i => thingsOn m s.S i (m.L / (sfOf s.S i).z)) ++ thingsOn m s.S q j) ∧
        ∃ v5, σ = [some (.ref (s.ad .d)), some (.int m.length), some (.ref D), some (.int (q : Nat)), some (.ref (s.ad (.p q))), v5]) ⟨sm, e1, ?_, _, rfl⟩ ?_ ?_⟩
      · have : thingsOn m s.S q 0 = [] := rfl
        rw [this, List.append_nil]; exact e2
      · rintro j σ H1 hj ⟨sm1, f1, f2, v5, rfl⟩
        have hj2 : j < y.tk.length := by rw [elen] at hj; omega
        have I1 := I.same sm1
        obtain ⟨b, hb⟩ : ∃ b, y.tk[j]? = some b := ⟨_, List.getElem?_eq_getElem hj2⟩
        have eg : y.tk.getD j false = b := by rw [List.getD_eq_getElem?_getD, hb]; rfl
        have ts := thingsOn_succ m s.S q j
        rw [es, eg] at ts
        refine ⟨_, rfl, _, _, _, _, rfl, rfl, SqL.of (I1.p hy), at_of (j := 1) (by decide) rfl, _, rfl, _, _, _, .bl b, rfl, rfl, SqL.of (I1.t hy), at_of (j := j) (by omega) (bl_at hb), _, rfl, ?_⟩
        refine iteB (fun h => ?_) (fun h => ?_)
        · rw [if_pos h] at ts
          have e0 : V.int (0 + (j : Int)) = V.int ((j : Nat) : Int) := by rw [Int.zero_add]
          refine ⟨_, rfl, .inl ⟨rfl, ?_⟩, ?_⟩
          · obtain ⟨us, u1, _⟩ := f2
            exact ⟨_, SqL.of u1⟩
          have j60 : j < 60 := by omega
          have z60 : y.z ≤ 60 := by omega
          have q40 : q < 40 := Nat.lt_of_lt_of_le x1 (plen m hok)
          refine ⟨_, rfl, _, rfl, _, _, rfl, rfl, .inl ⟨?_, ?_⟩, _, rfl, _, rfl, _, _, _, _, rfl, rfl, SqL.of (I1.p hy), at_of (j := 0) (by decide) rfl, _, _, rfl, rfl, .inr ⟨?_, ?_⟩, _, _, rfl, rfl, _, rfl, _, _, _, _, rfl, rfl, SqL.of (I1.p hy), at_of (j := 0) (by decide) rfl, (by show 2 ≤ sizeLine; decide), fun t ht => ?_⟩
          · show -(2 ^ 64) < ((q : Nat) : Int); omega
          · show ((q : Nat) : Int) < 2 ^ 64; omega
          · show -(2 ^ 64) < ((y.z : Nat) : Int); omega
          · show ((y.z : Nat) : Int) < 2 ^ 64; omega
          have ee : ((q : Nat) : Int) * m.length + (0 + (j : Int)) * (y.z : Nat) = ((plc m q j y : Nat) : Int) := by
            rw [hL]; unfold plc; simp
          have f3 := f2.keep (sm_n (o := .tup (pairV (plc m q j y, y.z))) ht)
          obtain ⟨xs, a1, a2, a3⟩ := f3.snoc (t := t) (r := pairV (plc m q j y, y.z)) upd_same
          have ev : HO.tup [V.int (((q : Nat) : Int) * m.length + (0 + (j : Int)) * (y.z : Nat)), V.int (y.z : Nat)] = .tup (pairV (plc m q j y, y.z)) := by rw [ee]; rfl
          rw [← ev] at a1 a3
          refine ⟨D, xs, _, rfl, rfl, a1, ?_, ?_, ?_, ?_, _, rfl⟩
          · rw [a2, List.length_map, List.length_append]
            have l1 := len40 i
            have l2 := thingsOn_len m s.S q j
            exact Nat.lt_of_le_of_lt (by omega : _ ≤ 2460) (by decide)
          · exact Same.up (fun b o e => sm_n ht _ _ (sm1 _ _ e)) hD
          · rw [upd_ne npD]; exact sm_n ht _ _ f1
          · rw [ts, ← List.append_assoc]
            show TupL _ D ((_ ++ [(plc m q j y, y.z)]).map pairV)
            rw [List.map_append]
            exact a3
        · rw [if_neg (by rw [h]; decide), List.append_nil] at ts
          refine ⟨sm1, f1, ?_, _, rfl⟩
          rw [ts]; exact f2
      · rintro σ H1 ⟨sm1, f1, f2, v5, rfl⟩
        refine ⟨sm1, f1, ?_, _, _, _, rfl⟩
        rw [elen, Int.toNat_natCast] at f2
        rw [take_at hq, List.flatMap_append]
        have : [q].flatMap (fun i => thingsOn m s.S i (m.L / (sfOf s.S i).z)) = thingsOn m s.S q y.tk.length := by
          rw [List.flatMap_cons, List.flatMap_nil, List.append_nil, es, x3]
        rw [this]; exact f2
    · rintro σ H' ⟨sm, e1, e2, v3, v4, v5, rfl⟩
      have el : (nV (pgs s.S m.n)).length = (pgs s.S m.n).length := List.length_map _
      rw [el, List.take_length] at e2
      exact ⟨_, rfl, k D H' hD e2 sm⟩
theorem rf_at_none {k q : Nat} : rfAt k q none = q := rfl
theorem count_false (l : List Bool) : l.count false = l.length - cnt l := by
  induction l with
  | nil => rfl
  | cons b l ih =>
    have := cnt_le l
    cases b <;> simp [cnt, List.count_cons] at ih this ⊢ <;> omega
theorem rfAll_range (S : Tb) (k q i : Nat) : rfAll S k q (List.range (i + 1)) = rfAll S k q (List.range i) + rfAt k q (S i) := by
  unfold rfAll
  rw [List.range_succ, List.map_append, List.sum_append]; simp
theorem ok_law_left (T : Tx K mg A) : Df P w K mg base 1 "_law_left" ["_law_model", "_law_drawn", "_law_size"] (sp_law_left K A) := by
  refine Dd.ok T.d_law_left sc_law_left bi_law_left (fun vs H Q E h => ?_) (fun f cdv Ar outer s H vs Q E hr h => ?_)
  · obtain ⟨d, q0, zs, m, F, S, k, rfl, _⟩ := h; rfl
  · obtain ⟨d, q0, zs, m, F, S, k, rfl, ⟨s, I, rfl, rfl, rfl⟩, mok, ok, hmem, hq0, kQ⟩ := h
    refine ⟨_, (pss_cons (ps_set (i := 3) sc_law_left.nd rfl (Or.inl rfl) pe_int)
    (pss_cons (ps_for (passes_of rfl) rfl (pi_range1 (by rfl) T.z_range (pa_cons (pe_ix ix_tup (pv 1) pe_int (fun _ _ => rfl)) pa_nil)) (pg_name (i := 4) sc_law_left.nd rfl (Or.inl rfl))
    (pss_one (ps_if (PW.pt (pw_or (pt_cmp (pc_dnotin (hu_of hr) (pv 4) (pv 0))) (pw_or1 (pt_cmpR op_notIn_seq pe_bl (pe_ix ix_list (pe_dget (hu_of hr) (pv 0) (pv 4) (fun _ _ => rfl)) pe_int (fun _ _ => rfl)) rfl)))) (pss_one (ps_set (i := 3) sc_law_left.nd rfl (Or.inl rfl) (pe_op op_add (pv 3) (pe_op op_fdiv (pe_ix ix_tup (pv 1) pe_int (fun _ _ => rfl)) (pv 2)))))
    (pss_one (ps_if (pt_cmpR op_eq (pe_ix ix_list (pe_dget (hu_of hr) (pv 0) (pv 4) (fun _ _ => rfl)) pe_int (fun _ _ => rfl)) (pv 2) (nomark _)) (pss_one (ps_set (i := 3) sc_law_left.nd rfl (Or.inl rfl) (pe_op op_add (pv 3) (pe_bm PySem.F.plainAttrs_list PySem.F.slot_list_count PySem.F.type_list_count mt_lcountB (pe_ix ix_list (pe_dget (hu_of hr) (pv 0) (pv 4) (fun _ _ => rfl)) pe_int (fun _ _ => rfl)) (pa_cons pe_bl pa_nil)))))
    pss_nil)))))
    (pss_one (ps_ret (pv 3))))), ?_⟩
    have hz := mok.zr hmem
    have hn40 := plen m mok
    have hl60 := mok.L60
    have en := mok.en
    refine ⟨_, rfl, q0, _, _, .int m.pages, rfl, rfl, .inl (.inl hq0), at_of (j := 0) (by decide) rfl, _, rfl, (by omega), (by omega), for_range (lo := 0) (n := _) (fun i σ H' => H' = H ∧ ∃ v4, σ = [some (.ref (s.ad .d)), some (.ref q0), some (.int (k : Nat)), some (.int (rfAll s.S k (m.L / k) (List.range i) : Nat)), v4]) ⟨rfl, _, rfl⟩ ?_ ?_⟩
    · rintro i σ H' hi ⟨eH, v4, rfl⟩
      subst eH
      rw [Int.zero_add]
      have er := rfAll_range s.S k (m.L / k) i
      have em : (((s.S i).map fun _ => V.ref (s.ad (.p i))).isSome) = (s.S i).isSome := by cases s.S i <;> rfl
      refine ⟨_, rfl, _, rfl, _, _, rfl, I.dgetO i, _, rfl, ?_⟩
      rw [em]
      have fin : ∀ (t : Int) (v : Option V), t = ((rfAt k (m.L / k) (s.S i) : Nat) : Int) → H' = H' ∧ ∃ v4, [some (V.ref (s.ad .d)), some (.ref q0), some (.int (k : Nat)), some (.int ((rfAll s.S k (m.L / k) (List.range i) : Nat) + t)), v] = [some (.ref (s.ad .d)), some (.ref q0), some (.int (k : Nat)), some (.int (rfAll s.S k (m.L / k) (List.range (i + 1)) : Nat)), v4] := fun t v ht => ⟨rfl, v, by rw [er, ht, Int.natCast_add]⟩
      cases ei : s.S i with
      | none =>
        refine iteNB (fun _ => ?_) (fun h => by cases h)
        refine ⟨_, rfl, _, rfl, q0, _, _, .int m.length, rfl, rfl, .inl (.inl hq0), at_of (j := 1) (by decide) rfl, _, rfl, _, _, rfl, rfl, ⟨by omega, by omega⟩, _, _, rfl, rfl, fin _ _ ?_⟩
        rw [per_cast mok, ei]; rfl
      | some x =>
        obtain ⟨x1, x2, x3⟩ := ok i x ei
        refine iteNB (fun h => by cases h) (fun _ => ?_)
        refine ⟨_, rfl, _, rfl, _, _, rfl, I.dget ei, _, _, _, _, rfl, rfl, SqL.of (I.p ei), at_of (j := 1) (by decide) rfl, _, _, rfl, .inl (SqL.of (I.t ei)), rfl, bls_flat _, _, rfl, ?_⟩
        rw [if_pos rfl, inV_bl]
        refine iteNB (fun h => ?_) (fun h => ?_)
        · have h0 : cnt x.tk = 0 := Nat.eq_zero_of_not_pos fun q => by
            have := cnt_true.mpr (Nat.pos_iff_ne_zero.mp q)
            rw [h] at this; cases this
          refine ⟨_, rfl, _, rfl, q0, _, _, .int m.length, rfl, rfl, .inl (.inl hq0), at_of (j := 1) (by decide) rfl, _, rfl, _, _, rfl, rfl, ⟨by omega, by omega⟩, _, _, rfl, rfl, fin _ _ ?_⟩
          rw [per_cast mok, ei]
          unfold rfAt
          dsimp only
          by_cases hxz : x.z = k
          · rw [if_pos hxz, x3, hxz, h0, Nat.sub_zero]
          · rw [if_neg hxz, if_pos h0]
        · have h0 := cnt_true.mp h
          refine ⟨_, rfl, _, rfl, _, _, rfl, I.dget ei, _, _, _, _, rfl, rfl, SqL.of (I.p ei), at_of (j := 0) (by decide) rfl, _, rfl, rfl, _, rfl, iteD (fun h1 => ?_) (fun h1 => ?_)⟩
          · have h1' : x.z = k := by
              have h1'' : V.int ((x.z : Nat) : Int) = V.int ((k : Nat) : Int) := h1
              injection h1'' with h1''; exact Int.ofNat.inj h1''
            refine ⟨_, rfl, _, rfl, _, rfl, _, _, rfl, I.dget ei, _, _, _, _, rfl, rfl, SqL.of (I.p ei), at_of (j := 1) (by decide) rfl, .inl ⟨rfl, _, SqL.of (I.t ei)⟩, _, _, _, rfl, rfl, SqL.of (I.t ei), _, _, rfl, rfl, fin _ _ ?_⟩
            rw [ei]
            unfold rfAt
            dsimp only
            rw [if_pos h1', count_false]
          · have h1' : ¬ x.z = k := fun e => h1 (by show V.int ((x.z : Nat) : Int) = V.int ((k : Nat) : Int); rw [e])
            refine ⟨rfl, some (.int (i : Nat)), ?_⟩
            have : rfAt k (m.L / k) (s.S i) = 0 := by
              rw [ei]; unfold rfAt; dsimp only
              rw [if_neg h1', if_neg h0]
            rw [er, this]; rfl
    · rintro σ H' ⟨eH, v4, rfl⟩
      subst eH
      rw [roomFor_eq] at kQ
      have e : m.pages.toNat = m.n := rfl
      rw [e]
      exact ⟨_, rfl, kQ⟩
end
end Sb
set_option pp.maxSteps 1500
namespace Sb
open PySem PySem.Spec PyProof.Rows L2
theorem rI_to {C : Int → Int → Prop} {f : Int → Int → V} {H : Hp} {Q : VK} {r : V} (i j : Int) (c : C i j) (e : f i j = r) (q : Q r H) : rI C f (.int i) (.int j) H Q := ⟨i, j, rfl, rfl, c, by rw [e]; exact q⟩
def sp_law_given (K : PySem.W.Frag) (A : Ad) : Sp := fun vs H Q _ => ∃ (d : Addr) (m : PlM) (F : Addr → Prop) (S : Tb) (p : Int) (i j : Nat), vs = [.ref d, .int m.length, .int p] ∧ MdAt H m.n d F S ∧ m.Ok ∧ SOk m S ∧ locate m S p = some (i, j) ∧ ∀ H' F', MdAt H' m.n d F' (giveT m S i j) → Stp F H F' H' → Q .non H'
def sp_law_got (K : PySem.W.Frag) (A : Ad) : Sp := fun vs H Q _ => ∃ (r pa z : Addr) (m : PlM) (F : Addr → Prop) (S : Tb) (cs : List Int) (w : Int), vs = [.ref r, .int w] ∧ RoomAt A H r pa z m F S cs ∧ 1 ≤ w ∧ (sizeFor m.sizes w = none → Q (.int (-2)) H) ∧
  ∀ k : Nat, sizeFor m.sizes w = some (k : Int) → (wishT m S k = none → ∀ H', Same H H' → Q (.int (-1)) H') ∧ ∀ pg j S' H' F' cs', wishT m S k = some (pg, j, S') → RoomAt A H' r pa z m F' S' cs' → Stp F H F' H' → Q (.int (pg * m.L + j * k : Nat)) H'
def sp_law_told (K : PySem.W.Frag) (A : Ad) : Sp := fun vs H Q _ => ∃ (r pa z d q0 zs : Addr) (m : PlM) (F G : Addr → Prop) (S : Tb) (cs : List Int) (w : Int), vs = [.ref r, .ref d, .ref q0, .int w] ∧ RoomAt A H r pa z m F S cs ∧ MdAt H m.n d G S ∧ 1 ≤ w ∧ H q0 = some (.tup [.int m.pages, .int m.length, .ref zs]) ∧ H zs = some (.lst (m.sizes.map V.int)) ∧ ∀ H', Same H H' → Q (.bl true) H'
theorem others_eq {S : Tb} {n z : Nat} {js : List Nat} (h : js.Perm (pgs S n)) : (js.filter fun q => decide ((sfOf S q).z = z) && isEmp S q).length = (others S n z).length := by
  have e : others S n z = (pgs S n).filter fun q => decide ((sfOf S q).z = z) && isEmp S q := by
    unfold others
    rw [← emps_pgs, List.filter_filter]
  rw [e]
  exact (h.filter _).length_eq
section
variable {P : Program} {w : World} {K : PySem.W.Frag} {mg : Str → Option Value} {base : Heap} {A : Ad}
theorem ok_law_got (T : Tx K mg A) : Df P w K mg base 6 "_law_got" ["_law_room", "_law_wish"] (sp_law_got K A) := by
  refine Dd.ok T.d_law_got sc_law_got bi_law_got (fun vs H Q E h => ?_) (fun f cdv Ar outer s H vs Q E hr h => ?_)
  · obtain ⟨r, pa, z, m, F, S, cs, w, rfl, _⟩ := h; rfl
  · obtain ⟨r, pa, z, m, F, S, cs, wv, rfl, R, w1, kN, kk⟩ := h
    refine ⟨_, (pss_one (ps_try_many rfl rfl takes0 (fun W pn xe tk po => (pss_one (ps_ret (pe_mfS (ok_Room_wish T) T.c_Room hr (by decide) tk (pv 0) (pa_cons (pv 1) pa_nil)))))
    (HdsOk.cons ⟨rfl, by decide, .inl T.e_NoRoom.g⟩ (fun a oe cls d pn hz hf => (pss_one (ps_ret (pe_un un_neg pe_int)))) (HdsOk.cons ⟨rfl, by decide, .inl T.e_TooLarge.g⟩ (fun a oe cls d pn hz hf => (pss_one (ps_ret (pe_un un_neg pe_int)))) HdsOk.nil)))), ?_⟩
    obtain ⟨dx, d, b, c, hob⟩ := R.ob
    have hbad : isWish (.int wv) = true := decide_eq_true w1
    refine ⟨_, rfl, r, dx, _, rfl, hob, rmF_no (by decide) _ _ _ _, _, rfl, r, pa, z, m, F, S, cs, .int wv, rfl, R, .int _, (fun h => by rw [hbad] at h; cases h), fun i hi hi1 => ⟨fun hn => ?_, fun k hs => ⟨fun hn H1 sm => ?_, fun pg j S' H1 F1 hw R1 st1 => ?_⟩⟩⟩
    · cases hi
      exact ⟨false, T.x_TooLarge_NoRoom, (fun q => nomatch q), fun _ => ⟨true, T.x_TooLarge_TooLarge, fun _ a ha => ⟨_, rfl, kN hn⟩, fun q => nomatch q⟩⟩
    · cases hi
      exact ⟨true, T.x_NoRoom_NoRoom, fun _ a ha => ⟨_, rfl, (kk k hs).1 hn H1 sm⟩, fun q => nomatch q⟩
    · cases hi
      exact (kk k hs).2 pg j S' H1 F1 _ hw R1 st1
theorem ok_law_told (T : Tx K mg A) : Df P w K mg base 4 "_law_told" ["_law_room", "_law_model", "_law_drawn", "_law_wish"] (sp_law_told K A) := by
  refine Dd.ok T.d_law_told sc_law_told bi_law_told (fun vs H Q E h => ?_) (fun f cdv Ar outer s H vs Q E hr h => ?_)
  · obtain ⟨r, pa, z, d, q0, zs, m, F, G, S, cs, w, rfl, _⟩ := h; rfl
  · obtain ⟨r, pa, z, d, q0, zs, m, F, G, S, cs, wv, rfl, R, M, w1, hq0, hzs, kQ⟩ := h
    refine ⟨_, (pss_cons (ps_set (i := 4) sc_law_told.nd rfl (Or.inl rfl) (pe_df (ok_law_size_by T) hr (by decide) (by rfl) (pa_cons (pe_ix ix_tup (pv 2) pe_int (fun _ _ => rfl)) (pa_cons (pv 3) pa_nil))))
    (pss_cons (ps_try_only rfl rfl ⟨rfl, by decide, .inl T.e_TooLarge.g⟩ takes0 (fun W pn xe tk po => (pss_one (ps_set (i := 5) sc_law_told.nd rfl (Or.inl rfl) (pe_mfS (ok_Room_room_for T) T.c_Room hr (by decide) tk (pv 0) (pa_cons (pv 3) pa_nil)))))
    (fun a oe cls d pn hz hf => (pss_one (ps_ret (pe_cmpR op_eq (pv 4) pe_int (nomark _))))))
    (pss_one (ps_ret (pe_and (pe_cmpR op_gt (pv 4) pe_int (nomark _)) (pe_and (pe_df (ok_law_whole T) hr (by decide) (by rfl) (pa_cons (pv 5) pa_nil)) (pe_one (pe_cmpR op_eq (pv 5) (pe_df (ok_law_left T) hr (by decide) (by rfl) (pa_cons (pv 1) (pa_cons (pv 2) (pa_cons (pv 4) pa_nil)))) (nomark _))))))))), ?_⟩
    have mok := R.pl.ok
    obtain ⟨dx, d', b, c, hob⟩ := R.ob
    have hbad : isWish (.int wv) = true := decide_eq_true w1
    refine ⟨_, rfl, q0, _, _, .ref zs, rfl, rfl, .inl (.inl hq0), at_of (j := 2) (by decide) rfl, _, rfl, zs, m.sizes, wv, rfl, SqL.of hzs, ?_⟩
    refine ⟨_, rfl, r, dx, _, rfl, hob, rmF_no (by decide) _ _ _ _, _, rfl, r, pa, z, m, F, S, cs, .int wv, rfl, R, .int _, (fun h => by rw [hbad] at h; cases h), fun i hi hi1 => ⟨fun hn => ?_, fun k hs H1 sm => ?_⟩⟩
    · cases hi
      have e0 : sizeByL m.sizes wv = 0 := by unfold sizeByL; rw [hn]; rfl
      rw [e0]
      refine ⟨true, T.x_TooLarge_TooLarge, fun _ a ha => ?_, fun q => nomatch q⟩
      exact ⟨_, rfl, rfl, kQ H (fun _ _ e => e)⟩
    · cases hi
      have e0 : sizeByL m.sizes wv = (k : Int) := by unfold sizeByL; rw [hs]; rfl
      have hmem := sizeFor_mem hs
      have hz := mok.zr hmem
      rw [e0]
      refine ⟨_, rfl, _, _, rfl, rfl, ?_⟩
      have e1 : decide ((0 : Int) < (k : Int)) = true := decide_eq_true (by omega)
      dsimp only
      rw [e1]
      refine ⟨_, rfl, iteT ?_⟩
      refine ⟨_, rfl, .int (roomFor m S k : Nat), "int", rfl, tInt, (by decide), _, rfl, iteT ?_⟩
      refine ⟨_, rfl, _, rfl, _, rfl, _, rfl, d, q0, zs, m, G, S, k, rfl, M.same sm, mok, R.ok, hmem, sm _ _ hq0, rfl, ?_⟩
      have e2 : decide (V.int (roomFor m S k : Nat) = V.int (roomFor m S k : Nat)) = true := decide_eq_true rfl
      have := kQ H1 sm
      rw [← e2] at this
      exact this
theorem ok_law_given (T : Tx K mg A) : Df P w K mg base 1 "_law_given" ["_law_model", "_law_length", "_law_place"] (sp_law_given K A) := by
  refine Dd.ok T.d_law_given sc_law_given bi_law_given (fun vs H Q E h => ?_) (fun f cdv Ar outer s H vs Q E hr h => ?_)
  · obtain ⟨d, m, F, S, p, i, j, rfl, _⟩ := h; rfl
  · obtain ⟨d, m, F, S, p, i, j, rfl, ⟨s, I, rfl, rfl, rfl⟩, mok, ok, hl, kQ⟩ := h
    refine ⟨_, (pss_cons (ps_set (i := 3) sc_law_given.nd rfl (Or.inl rfl) (pe_op op_fdiv (pv 2) (pv 1)))
    (pss_cons (ps_set (i := 4) sc_law_given.nd rfl (Or.inr rfl) (pe_dget (hu_of hr) (pv 0) (pv 3) (fun _ _ => rfl)))
    (pss_cons (ps_asg pe_bl (pg_sub (pe_ix ix_list (pv 4) pe_int (fun _ _ => rfl)) (pe_op op_fdiv (pe_op op_mod (pv 2) (pv 1)) (pe_ix ix_list (pv 4) pe_int (fun _ _ => rfl))) set_list))
    (pss_cons (ps_lock (ps_setLc (i := 5) (own := [("_law_one", 6)]) (g := gName 6) (tt := (tAnd (tTest (tOp rEq (tOp (rIxL K) (tDGet (tVar 0) (tVar 6)) (tC (.int 0))) (tOp (rIxL K) (tVar 4) (tC (.int 0))))) (tTest (tOp (rIn K true) (tC (.bl true)) (tOp (rIxL K) (tDGet (tVar 0) (tVar 6)) (tC (.int 1))))))) (te := (tVar 6)) rfl sc_law_given.nd rfl rfl (sw_true rfl rfl rfl (by decide +kernel)) (pi_keys (pv 0)) (blkOk_by (own := [("_law_one", 6)]) (N := ["_law_model", "_law_length", "_law_place", "_law_page", "_law_row", "_law_empty", "_law_one"]) (sc := defScope s_law_given) (by decide +kernel)) (fun _ _ _ _ _ => pg_name (i := 6) sc_law_given.nd rfl (Or.inl rfl)) (fun _ _ _ _ _ => pts_one (PW.pt (pw_and (pt_cmpR op_eq (pe_ix ix_list (pe_dget (hu_of hr) (pv 0) (pv 6) (fun _ _ => rfl)) pe_int (fun _ _ => rfl)) (pe_ix ix_list (pv 4) pe_int (fun _ _ => rfl)) (nomark _)) (pw_and1 (pt_cmpR op_notIn_seq pe_bl (pe_ix ix_list (pe_dget (hu_of hr) (pv 0) (pv 6) (fun _ _ => rfl)) pe_int (fun _ _ => rfl)) rfl))))) (fun _ _ _ _ _ => (pv 6))))
    (pss_one (ps_if (PW.pt (pw_and (pt_cmpR op_notIn_seq pe_bl (pe_ix ix_list (pv 4) pe_int (fun _ _ => rfl)) rfl) (pw_and1 (pt_cmpR op_gt (pe_callB call_len_seq (by rfl) T.z_len (by decide +kernel) (pa_cons (pv 5) pa_nil)) pe_int (nomark _))))) (pss_one (ps_expr (pe_dpop1 (pv 0) (pv 3) ⟨by rfl, by rfl, by rfl, by rfl⟩)))
    pss_nil)))))), ?_⟩
    obtain ⟨x, hx, hj, hjl, hp, hin⟩ := locate_lt ok mok.L1 hl
    obtain ⟨x1, x2, x3⟩ := ok i x hx
    have hz := mok.zr x2
    have hL := mok.eL
    have hL1 := mok.L1
    have hl60 := mok.L60
    have hn40 := plen m mok
    have hjz : j * x.z < m.L := by
      have h1 : (j + 1) * x.z ≤ (m.L / x.z) * x.z := Nat.mul_le_mul_right _ hjl
      have h2 : (m.L / x.z) * x.z ≤ m.L := Nat.div_mul_le_self m.L x.z
      rw [Nat.succ_mul] at h1
      omega
    have e1 : p / m.length = ((i : Nat) : Int) := by
      rw [hp, hL, ← Int.natCast_ediv]
      congr 1
      rw [Nat.mul_comm i, Nat.mul_add_div hL1, Nat.div_eq_of_lt hjz, Nat.add_zero]
    have e2 : p % m.length / ((x.z : Nat) : Int) = ((j : Nat) : Int) := by
      rw [hp, hL, ← Int.natCast_emod, ← Int.natCast_ediv]
      congr 1
      rw [Nat.mul_comm i, Nat.mul_add_mod, Nat.mod_eq_of_lt hjz, Nat.mul_div_cancel _ hz.1]
    have hjt : j < x.tk.length := by rw [x3]; exact hjl
    refine ⟨_, rfl, _, rfl, rI_to (r := .int (i : Nat)) _ _ ⟨by omega, by omega⟩ (by rw [e1]) ?_⟩
    refine ⟨_, rfl, _, rfl, _, _, rfl, I.dget hx, _, rfl, _, _, _, _, rfl, rfl, SqL.of (I.p hx), at_of (j := 1) (by decide) rfl, _, rfl, _, rfl, _, _, rfl, rfl, (by show 0 < m.length; omega), _, rfl, _, _, _, _, rfl, rfl, SqL.of (I.p hx), at_of (j := 0) (by decide) rfl, rI_to (r := .int (j : Nat)) _ _ ⟨by omega, by omega⟩ (by rw [e2]) ?_⟩
    refine ⟨_, _, _, j, rfl, rfl, I.t hx, ?_, ?_⟩
    · rw [List.length_map]; exact ixN_at hjt
    have eset : (x.tk.map V.bl).set j (.bl false) = (x.tk.set j false).map V.bl := by rw [List.map_set]
    rw [eset]
    have lt : liveM s.S (.t i) := by show (s.S i).isSome = true; rw [hx]; rfl
    have I1 := I.setT (y := ⟨x.z, x.tk.set j false⟩) hx rfl
    have eG : updT s.S i (some ⟨x.z, x.tk.set j false⟩) = giveS s.S i j := by unfold giveS; rw [sfOf_at hx]
    have st1 : Stp (footM s) H (footM s) (upd H (s.ad (.t i)) (.lst ((x.tk.set j false).map V.bl))) := ⟨fun a o e n => by rw [upd_ne (fun q => n ⟨_, lt, q.symm⟩)]; exact e, fun _ h => .inl h⟩
    have ef := footM_set (s := s) (y := ⟨x.z, x.tk.set j false⟩) hx
    rw [eG] at I1 ef
    have eGi : giveS s.S i j i = some ⟨x.z, x.tk.set j false⟩ := by rw [← eG]; exact updT_same
    rw [← ef] at st1
    rw [show footM { s with S := giveS s.S i j } = footM s from ef] at st1
    generalize upd H (s.ad (.t i)) (.lst ((x.tk.set j false).map V.bl)) = H1 at I1 st1 ⊢
    obtain ⟨s1, hs1⟩ : ∃ s1 : Ms, s1 = { s with S := giveS s.S i j } := ⟨_, rfl⟩
    have ead : s1.ad = s.ad := by rw [hs1]
    have eS1 : s1.S = giveS s.S i j := by rw [hs1]
    rw [← hs1] at I1 ef
    rw [← eS1] at eGi
    have hd1 : H1 (s.ad .d) = some (.dK (kvR s1.ad s1.js)) := by rw [← ead]; exact I1.d
    refine ⟨_, _, hd1, trivial, fun od => ?_⟩
    refine ⟨_, rfl, _, od, rfl, .inl ⟨_, upd_same, fun D hD => ?_⟩⟩
    have npD : D ≠ s.ad .d := fun e => by rw [e, upd_same] at hD; cases hD
    have hD1 : H1 D = none := by rw [upd_ne npD] at hD; exact hD
    -- reading while the dict is locked
    have lk : ∀ H', Same (upd H1 (s.ad .d) (.frz od (.dK (kvR s1.ad s1.js)))) H' → Same H1 (upd H' (s.ad .d) (.dK (kvR s1.ad s1.js))) := fun H' sm a o e => by
      by_cases q : a = s.ad .d
      · subst q; rw [upd_same]; rw [hd1] at e; exact e
      · rw [upd_ne q]; exact sm _ _ (by rw [upd_ne q]; exact e)
    have lr : ∀ H', Same (upd H1 (s.ad .d) (.frz od (.dK (kvR s1.ad s1.js)))) H' → ∀ a o, H1 a = some o → a ≠ s.ad .d → H' a = some o := fun H' sm a o e q => sm _ _ (by rw [upd_ne q]; exact e)
    have ead1 : s1.ad .d = s.ad .d := by rw [ead]
    refine lc_it walk_keys (Pv := fun k H' => Same (upd H1 (s.ad .d) (.frz od (.dK (kvR s1.ad s1.js)))) H' ∧ H' D = some (.lst (nV ((s1.js.take k).filter fun q => decide ((sfOf s1.S q).z = x.z) && isEmp s1.S q)))) ⟨sm_n hD, upd_same⟩ (fun k H' _ h => h.1 _ _ upd_same) ?_ ?_
    · rintro k v H2 H3 hk ⟨sm2, e3⟩ ⟨rfl, ky, vv, hkv, rfl⟩
      have hkl : k < s1.js.length := by unfold kvR at hk; rw [List.length_map] at hk; exact hk
      have hq : s1.js[k]? = some (s1.js[k]) := List.getElem?_eq_getElem hkl
      have ek : (ky, vv) = (Sum.inl ((s1.js[k] : Nat) : Int), V.ref (s1.ad (.p s1.js[k]))) := by
        unfold kvR at hkv
        rw [List.getElem?_map, hq] at hkv
        exact (Option.some.inj hkv).symm
      have ek1 : ky = Sum.inl ((s1.js[k] : Nat) : Int) := congrArg Prod.fst ek
      subst ek1
      generalize s1.js[k] = q at hq ⊢
      have hqs : (s1.S q).isSome = true := I1.mem_js.mp (List.mem_of_getElem? hq)
      obtain ⟨y, hy⟩ := Option.isSome_iff_exists.mp hqs
      have lp : liveM s1.S (.p q) := hqs
      have lq : liveM s1.S (.t q) := hqs
      have lpi : liveM s1.S (.p i) := by show (s1.S i).isSome = true; rw [eGi]; rfl
      have hp3 := lr H3 sm2 _ _ (I1.p hy) (by rw [← ead1]; exact I1.ne (l' := .d) lp trivial (fun z => nomatch z))
      have ht3 := lr H3 sm2 _ _ (I1.t hy) (by rw [← ead1]; exact I1.ne (l' := .d) lq trivial (fun z => nomatch z))
      have hpi := lr H3 sm2 _ _ (I1.p eGi) (by rw [← ead1]; exact I1.ne (l' := .d) lpi trivial (fun z => nomatch z))
      rw [ead] at hpi
      have hget : DGet H3 (s.ad .d) (.int (q : Nat)) (some (.ref (s1.ad (.p q)))) := by
        have e : valV (kvR s1.ad s1.js) (Sum.inl (q : Int)) = some (V.ref (s1.ad (.p q))) := by rw [valV_kvR, if_pos (I1.mem_js.mpr hqs)]
        rw [← e]
        exact .inl ⟨_, Sum.inl (q : Int), .inr ⟨od, sm2 _ _ upd_same⟩, rfl, rfl⟩
      have ey : sfOf s1.S q = y := sfOf_at hy
      refine ⟨rfl, ?_⟩
      refine ⟨_, rfl, _, rfl, _, _, rfl, hget, _, _, _, _, rfl, rfl, SqL.of hp3, at_of (j := 0) (by decide) rfl, _, rfl, _, _, _, _, rfl, rfl, SqL.of hpi, at_of (j := 0) (by decide) rfl, rfl, _, rfl, ?_⟩
      have no : ¬ (y.z = x.z ∧ cnt y.tk = 0) → Same (upd H1 (s.ad .d) (.frz od (.dK (kvR s1.ad s1.js)))) H3 ∧ H3 D = some (.lst (nV ((s1.js.take (k + 1)).filter fun q => decide ((sfOf s1.S q).z = x.z) && isEmp s1.S q))) := fun h => by
        refine ⟨sm2, ?_⟩
        rw [e3, filt_snoc hq, if_neg, List.append_nil]
        rw [ey, isEmp_at hy, Bool.and_eq_true]
        exact fun hh => h ⟨of_decide_eq_true hh.1, of_decide_eq_true hh.2⟩
      refine iteD (fun h => ?_) (fun h => ?_)
      rotate_left
      · exact no fun hh => h (by show V.int ((y.z : Nat) : Int) = V.int ((x.z : Nat) : Int); rw [hh.1])
      have h' : y.z = x.z := by
        have h'' : V.int ((y.z : Nat) : Int) = V.int ((x.z : Nat) : Int) := h
        injection h'' with h''
        exact Int.ofNat.inj h''
      refine ⟨_, rfl, _, rfl, _, _, rfl, hget, _, _, _, _, rfl, rfl, SqL.of hp3, at_of (j := 1) (by decide) rfl, _, _, rfl, .inl (SqL.of ht3), rfl, bls_flat _, _, rfl, ?_⟩
      rw [if_pos rfl, inV_bl]
      refine iteNB (fun h2 => ?_) (fun h2 => ?_)
      · have h0 : cnt y.tk = 0 := Nat.eq_zero_of_not_pos fun q => by
          have := cnt_true.mpr (Nat.pos_iff_ne_zero.mp q)
          rw [h2] at this; cases this
        refine ⟨_, rfl, _, e3, ?_, Same.up sm2 hD, ?_⟩
        · rw [List.length_map]
          refine Nat.lt_of_le_of_lt (List.length_filter_le _ _) ?_
          rw [List.length_take]
          have := I1.js.length_eq
          have := pgs_len s1.S m.n
          exact Nat.lt_of_le_of_lt (by omega : _ ≤ 40) (by decide)
        · rw [upd_same, filt_snoc hq, if_pos (by rw [ey, isEmp_at hy, Bool.and_eq_true]; exact ⟨decide_eq_true h', decide_eq_true h0⟩), nV_snoc]; rfl
      · exact no fun hh => cnt_true.mp h2 hh.2
    · rintro H2 ⟨sm2, e3⟩
      have ekl : (kvR s1.ad s1.js).length = s1.js.length := by unfold kvR; rw [List.length_map]
      rw [ekl, List.take_length] at e3
      refine ⟨sm2 _ _ upd_same, ?_⟩
      have sm3 := lk H2 sm2
      have e4 : upd H2 (s.ad .d) (.dK (kvR s1.ad s1.js)) D = some (.lst (nV (s1.js.filter fun q => decide ((sfOf s1.S q).z = x.z) && isEmp s1.S q))) := by rw [upd_ne npD]; exact e3
      generalize upd H2 (s.ad .d) (.dK (kvR s1.ad s1.js)) = H4 at sm3 e4 ⊢
      have I4 := I1.same sm3
      have st4 : Stp (footM s) H (footM s) H4 := st1.trans (Stp.same sm3)
      have eoth := others_eq (z := x.z) I1.js
      have eGc : sfOf (giveS s.S i j) i = ⟨x.z, x.tk.set j false⟩ := sfOf_at (by rw [← eS1]; exact eGi)
      have exz : (sfOf s.S i).z = x.z := by rw [sfOf_at hx]
      have noG : ¬ (cnt (x.tk.set j false) = 0 ∧ 1 < (others s1.S m.n x.z).length) → Q .non H4 := fun h => by
        refine kQ H4 (footM s) ⟨s1, I4, ead1, ?_, ?_⟩ st4
        · unfold giveT
          rw [eGc, exz, ← eS1, if_neg h]
        · exact ef
      have hpi : H4 (s.ad (.p i)) = some (.lst [.int (x.z : Nat), .ref (s.ad (.t i))]) := by have := I4.p eGi; rw [ead] at this; exact this
      have hti : H4 (s.ad (.t i)) = some (.lst ((x.tk.set j false).map V.bl)) := by have := I4.t eGi; rw [ead] at this; exact this
      refine ⟨_, rfl, _, _, _, _, rfl, rfl, SqL.of hpi, at_of (j := 1) (by decide) rfl, _, _, rfl, .inl (SqL.of hti), rfl, bls_flat _, _, rfl, ?_⟩
      rw [if_pos rfl, inV_bl]
      refine iteNB (fun h2 => ?_) (fun h2 => ?_)
      rotate_left
      · exact noG fun hh => cnt_true.mp h2 hh.1
      have h0 : cnt (x.tk.set j false) = 0 := Nat.eq_zero_of_not_pos fun q => by
        have := cnt_true.mpr (Nat.pos_iff_ne_zero.mp q)
        rw [h2] at this; cases this
      refine ⟨_, rfl, D, _, rfl, .inl (SqL.of e4), _, _, rfl, rfl, _, rfl, ?_⟩
      refine iteD (fun h3 => ?_) (fun h3 => ?_)
      rotate_left
      · refine noG fun hh => h3 ?_
        rw [List.length_map, eoth]
        have := hh.2
        omega
      have h3' : 1 < (others s1.S m.n x.z).length := by
        rw [List.length_map, eoth] at h3; omega
      have ev : valV (kvR s1.ad s1.js) (Sum.inl (i : Int)) = some (V.ref (s1.ad (.p i))) := by rw [valV_kvR, if_pos (I1.mem_js.mpr (by rw [eGi]; rfl))]
      have hd4 : H4 (s.ad .d) = some (.dK (kvR s1.ad s1.js)) := by rw [← ead1]; exact I4.d
      refine ⟨_, rfl, _, rfl, .inl ⟨_, .inl hd4⟩, _, rfl, _, _, _, hd4, rfl, ev, ?_⟩
      have I5 := I4.drop (i := i)
      rw [ead1] at I5
      refine kQ _ _ ⟨_, I5, ead1, ?_, rfl⟩ (st4.trans ⟨fun a o e n => ?_, fun a q => .inl ?_⟩)
      · unfold giveT
        rw [eGc, exz, ← eS1, if_pos ⟨h0, h3'⟩]
      · rw [upd_ne (fun q => n ⟨.d, trivial, q.symm⟩)]; exact e
      · have := footM_drop a q
        rw [ef] at this; exact this
end
end Sb
set_option pp.maxSteps 1500
namespace Sb
open PySem PySem.Spec PyProof.Rows L2
/-! ### the law's own table while it gathers -/
def tmL (m : PlM) (S : Tb) (k t : Nat) (G : Gs) : Tb := fun q => if q ∈ leaveO m S k then (if q ∈ (leaveO m S k).take t then none else S q) else G.S q
structure Lv (m : PlM) (S : Tb) (k t j : Nat) (G : Gs) : Prop where
  gp : GP m S k G
  old : ∀ t' q j', (leaveO m S k)[t']? = some q → (t < t' ∨ (t = t' ∧ j ≤ j')) → (sfOf G.S q).tk[j']? = (sfOf S q).tk[j']?
  len : G.mv.length ≤ t * 60 + j
theorem leave_lt (m : PlM) (S : Tb) (k : Nat) : (leaveO m S k).Pairwise (· < ·) := (own_lt S m.n k).filter _
theorem leave_ix {m : PlM} {S : Tb} {k t t' q : Nat} (h : (leaveO m S k)[t]? = some q) (h' : (leaveO m S k)[t']? = some q) : t = t' := nd_ix (nodup_lt (leave_lt m S k)) h h'
theorem stay_leave {m : PlM} {S : Tb} {k q : Nat} (h : q ∈ stayO m S k) : q ∉ leaveO m S k := fun h' => (mem_leave.mp h').2 h
theorem Lv.skip {m : PlM} {S : Tb} {k t j : Nat} {G : Gs} (h : Lv m S k t j G) : Lv m S k t (j + 1) G :=
  ⟨h.gp, fun t' q j' hq hh => h.old t' q j' hq (hh.elim .inl fun a => .inr ⟨a.1, by omega⟩), by have := h.len; omega⟩
theorem Lv.next {m : PlM} {S : Tb} {k t j : Nat} {G : Gs} (h : Lv m S k t j G) (hj : j ≤ 60) : Lv m S k (t + 1) 0 G :=
  ⟨h.gp, fun t' q j' hq hh => h.old t' q j' hq (.inl (by omega)), by have := h.len; omega⟩
theorem Lv.move {m : PlM} {S : Tb} {k t j i g j2 : Nat} {G : Gs} (h : Lv m S k t j G) (hi : (leaveO m S k)[t]? = some i) (mv : Mv m S k i j g j2 G) (gp : GP m S k (mvG m k i j g j2 G)) : Lv m S k t (j + 1) (mvG m k i j g j2 G) := by
  refine ⟨gp, fun t' q j' hq hh => ?_, ?_⟩
  · have old := h.old t' q j' hq (hh.elim .inl fun a => .inr ⟨a.1, by omega⟩)
    rw [← old]
    have ngq : q ≠ g := fun e => stay_leave mv.gs (by rw [← e]; exact List.mem_of_getElem? hq)
    show (sfOf (mvS G.S i j g j2) q).tk[j']? = _
    by_cases e : q = i
    · subst e
      have et := leave_ix hi hq
      have e2 : sfOf (mvS G.S q j g j2) q = ⟨(sfOf G.S q).z, (sfOf G.S q).tk.set j false⟩ := sfOf_at (by unfold mvS; exact updT_same)
      rw [e2]
      show ((sfOf G.S q).tk.set j false)[j']? = _
      rw [List.getElem?_set_ne (by omega)]
    · have e2 : sfOf (mvS G.S i j g j2) q = sfOf G.S q := by
        unfold sfOf mvS
        rw [updT_ne e, updT_ne ngq]
      rw [e2]
  · show (G.mv ++ [_]).length ≤ _
    rw [List.length_append]
    have := h.len
    show G.mv.length + 1 ≤ _
    omega
theorem Lv.zero {m : PlM} {S : Tb} {cs : List Int} {k : Nat} : Lv m S k 0 0 ⟨S, cs, []⟩ := ⟨⟨SameSh.refl _, rfl⟩, fun _ _ _ _ _ => rfl, Nat.zero_le _⟩
theorem tm_zero {m : PlM} {S : Tb} {cs : List Int} {k : Nat} : tmL m S k 0 ⟨S, cs, []⟩ = S := by
  funext q
  unfold tmL
  by_cases h : q ∈ leaveO m S k
  · rw [if_pos h, if_neg (by rw [List.take_zero]; simp)]
  · rw [if_neg h]
theorem tm_stay {m : PlM} {S : Tb} {k t q : Nat} {G : Gs} (h : q ∉ leaveO m S k) : tmL m S k t G q = G.S q := if_neg h
theorem not_take {m : PlM} {S : Tb} {k t i : Nat} (hi : (leaveO m S k)[t]? = some i) : i ∉ (leaveO m S k).take t := fun h => by
  obtain ⟨u, hu⟩ := List.getElem?_of_mem h
  rw [List.getElem?_take] at hu
  split at hu
  · rename_i hlt
    have := leave_ix hi hu
    omega
  · cases hu
theorem tm_cur {m : PlM} {S : Tb} {k t i : Nat} {G : Gs} (hi : (leaveO m S k)[t]? = some i) : tmL m S k t G i = S i := by
  unfold tmL
  rw [if_pos (List.mem_of_getElem? hi), if_neg (not_take hi)]
theorem tm_move {m : PlM} {S : Tb} {k t i j g j2 : Nat} {G : Gs} (hi : (leaveO m S k)[t]? = some i) (mv : Mv m S k i j g j2 G) : tmL m S k t (mvG m k i j g j2 G) = updT (tmL m S k t G) g (some ⟨(sfOf G.S g).z, (sfOf G.S g).tk.set j2 true⟩) := by
  funext q
  have ng := stay_leave mv.gs
  by_cases e : q = g
  · subst e
    rw [updT_same, tm_stay ng]
    show mvS G.S i j q j2 q = _
    unfold mvS
    rw [updT_ne mv.ne, updT_same]
  · rw [updT_ne e]
    unfold tmL
    by_cases h : q ∈ leaveO m S k
    · rw [if_pos h, if_pos h]
    · rw [if_neg h, if_neg h]
      show mvS G.S i j g j2 q = _
      unfold mvS
      rw [updT_ne (fun z => h (by rw [z]; exact List.mem_of_getElem? hi)), updT_ne e]
theorem tm_next {m : PlM} {S : Tb} {k t i : Nat} {G : Gs} (hi : (leaveO m S k)[t]? = some i) : tmL m S k (t + 1) G = updT (tmL m S k t G) i none := by
  funext q
  by_cases e : q = i
  · subst e
    rw [updT_same]
    unfold tmL
    rw [if_pos (List.mem_of_getElem? hi), if_pos (by rw [take_at hi]; simp)]
  · rw [updT_ne e]
    unfold tmL
    by_cases h : q ∈ leaveO m S k
    · rw [if_pos h, if_pos h]
      have : q ∈ (leaveO m S k).take (t + 1) ↔ q ∈ (leaveO m S k).take t := by rw [take_at hi, List.mem_append, List.mem_singleton]; exact ⟨fun h => h.elim id fun h => absurd h e, .inl⟩
      by_cases h2 : q ∈ (leaveO m S k).take t
      · rw [if_pos h2, if_pos (this.mpr h2)]
      · rw [if_neg h2, if_neg (fun z => h2 (this.mp z))]
    · rw [if_neg h, if_neg h]
theorem tm_end {m : PlM} {S : Tb} {cs : List Int} {k : Nat} : tmL m S k (leaveO m S k).length (gathG m S cs k) = gathS m S cs k := by
  funext q
  rw [gathS_at]
  unfold tmL
  rw [List.take_length]
  by_cases h : q ∈ leaveO m S k
  · rw [if_pos h, if_pos h, if_pos h]
  · rw [if_neg h, if_neg h]
def gAt (m : PlM) (S : Tb) (cs : List Int) (k t : Nat) : Gs := ((leaveO m S k).take t).foldl (mvP m (stayO m S k) (m.L / k)) ⟨S, cs, []⟩
theorem gAt_end (m : PlM) (S : Tb) (cs : List Int) (k : Nat) : gAt m S cs k (leaveO m S k).length = gathG m S cs k := by unfold gAt gathG; rw [List.take_length]
theorem gAt_succ {m : PlM} {S : Tb} {cs : List Int} {k t i : Nat} (hi : (leaveO m S k)[t]? = some i) : gAt m S cs k (t + 1) = (List.range (m.L / k)).foldl (mv1 m (stayO m S k) i) (gAt m S cs k t) := by
  unfold gAt
  rw [take_at hi, foldl_snoc']; rfl
theorem head_find {p : Nat → Bool} : ∀ {l : List Nat} {g : Nat}, l.find? p = some g → (l.filter p)[0]? = some g
  | [], _, h => nomatch h
  | a :: l, g, h => by
    by_cases e : p a = true
    · rw [List.find?_cons_of_pos e] at h
      rw [List.filter_cons_of_pos e]
      exact h
    · rw [List.find?_cons_of_neg e] at h
      rw [List.filter_cons_of_neg e]
      exact head_find h
def rkP (S : Tb) (i : Nat) : Int × Int := (-((cn S i : Nat) : Int), ((i : Nat) : Int))
theorem lexI_anti (a b : Int × Int) (h1 : lexI a b) (h2 : lexI b a) : a = b := by
  obtain ⟨a1, a2⟩ := a
  obtain ⟨b1, b2⟩ := b
  unfold lexI at h1 h2
  dsimp only at h1 h2
  have e1 : a1 = b1 := by omega
  have e2 : a2 = b2 := by omega
  rw [e1, e2]
theorem ranked_is {S : Tb} {is : List Nat} {l' : List (Int × Int)} (h1 : l'.Perm (is.map (rkP S))) (h2 : l'.Pairwise lexI) : l' = (rankedL S is).map (rkP S) := by
  refine eq_srt lexI_anti h2 ?_ (h1.trans ((ranked_perm S is).map _).symm)
  rw [List.pairwise_map]
  refine (ranked_pw S is).imp fun {a b} h => ?_
  rw [rkLe_iff] at h
  unfold lexI rkP
  dsimp only
  omega
theorem ranked_stay {S : Tb} {is : List Nat} {k : Nat} (hlt : is.Pairwise (· < ·)) {ys : List Int} (h1 : ys.Perm (((rankedL S is).take (needL S is k)).map fun i => ((i : Nat) : Int))) (h2 : ys.Pairwise (· ≤ ·)) : ys = castI (stayL S is k) := by
  have hpm : (stayL S is k).Perm ((rankedL S is).take (needL S is k)) := by
    have nd1 : (stayL S is k).Nodup := (nodup_lt hlt).filter _
    have nd2 : ((rankedL S is).take (needL S is k)).Nodup := (List.take_sublist _ _).nodup ((ranked_perm S is).nodup_iff.mpr (nodup_lt hlt))
    refine (List.perm_ext_iff_of_nodup nd1 nd2).mpr fun i => ?_
    unfold stayL
    rw [List.mem_filter, decide_eq_true_eq]
    exact ⟨fun h => h.2, fun h => ⟨(ranked_perm S is).mem_iff.mp (List.mem_of_mem_take h), h⟩⟩
  exact eq_le h2 (castI_le (hlt.filter _)) (h1.trans (hpm.symm.map _))
theorem TupL.updO {H : Hp} {q a : Addr} {o : HO} {rows : List (List V)} (h : TupL H q rows) (ne : q ≠ a) (hl : ∀ r, H a ≠ some (.tup r)) : TupL (upd H a o) q rows := by
  obtain ⟨ts, h1, h2⟩ := h
  exact ⟨ts, by rw [upd_ne ne]; exact h1, map_keep h2 fun t r ht e => by rw [upd_ne (fun z => hl r (by rw [← z]; exact e))]; exact e⟩
theorem TupL.take {H : Hp} {q u : Addr} {rows : List (List V)} {xs : List V} (h : TupL H q rows) (hx : H q = some (.lst xs)) (hu : H u = none) (n : Nat) : TupL (upd H u (.lst (xs.take n))) u (rows.take n) := by
  obtain ⟨ts, h1, h2⟩ := h
  rw [h1] at hx
  injection hx with hx
  injection hx with hx
  subst hx
  refine ⟨ts.take n, by rw [upd_same, List.map_take], ?_⟩
  have key : ts.map (upd H u (.lst ((ts.map V.ref).take n))) = rows.map fun r => some (.tup r) := map_keep h2 fun t r _ e => sm_n hu _ _ e
  rw [List.map_take, key, List.map_take]
end Sb
set_option pp.maxSteps 1500
namespace Sb
open PySem PySem.Spec PyProof.Rows L2
def sp_law_gathered_by (K : PySem.W.Frag) (A : Ad) : Sp := fun vs H Q _ => ∃ (d : Addr) (m : PlM) (F : Addr → Prop) (S : Tb) (cs : List Int) (k : Nat), vs = [.ref d, .int m.length, .int (k : Nat)] ∧ MdAt H m.n d F S ∧ m.Ok ∧ SOk m S ∧ (k : Int) ∈ m.sizes ∧
  ∀ q H' F', MdAt H' m.n d F' (gathS m S cs k) → TupP H' q (gathG m S cs k).mv → H q = none → ¬ F' q → Stp F H F' H' → Q (.ref q) H'
structure GB (H : Hp) (m : PlM) (s : Ms) (k : Nat) (st M lp : Addr) (t j : Nat) (G : Gs) (H' : Hp) : Prop where
  lv : Lv m s.S k t j G
  md : ∃ s' : Ms, MdI H' m.n s' ∧ s'.ad .d = s.ad .d ∧ s'.S = tmL m s.S k t G ∧ ∀ a, footM s' a → footM s a
  keep : ∀ a o, H a = some o → ¬ footM s a → H' a = some o
  est : H' st = some (.lst (nV (stayO m s.S k)))
  elp : H' lp = some (.lst (nV (leaveO m s.S k)))
  mv : TupP H' M G.mv
theorem GB.same {H H' H'' : Hp} {m : PlM} {s : Ms} {k : Nat} {st M lp : Addr} {t j : Nat} {G : Gs} (g : GB H m s k st M lp t j G H') (sm : Same H' H'') : GB H m s k st M lp t j G H'' :=
  ⟨g.lv, by obtain ⟨s', I, h⟩ := g.md; exact ⟨s', I.same sm, h⟩, fun a o e n => sm _ _ (g.keep a o e n), sm _ _ g.est, sm _ _ g.elp, g.mv.keep sm⟩
section
variable {P : Program} {w : World} {K : PySem.W.Frag} {mg : Str → Option Value} {base : Heap} {A : Ad}
theorem ok_law_gathered_by (T : Tx K mg A) : Df P w K mg base 1 "_law_gathered_by" ["_law_model", "_law_length", "_law_size"] (sp_law_gathered_by K A) := by
  refine Dd.ok T.d_law_gathered_by sc_law_gathered_by bi_law_gathered_by (fun vs H Q E h => ?_) (fun f cdv Ar outer s H vs Q E hr h => ?_)
  · obtain ⟨d, m, F, S, cs, k, rfl, _⟩ := h; rfl
  · obtain ⟨d, m, F, S, cs, k, rfl, ⟨s, I, rfl, rfl, rfl⟩, mok, ok, hmem, kQ⟩ := h
    refine ⟨_, (pss_cons (ps_setLc (i := 3) (own := [("_law_page", 4)]) (g := gName 4) (tt := (tTest (tOp rEq (tOp (rIxL K) (tDGet (tVar 0) (tVar 4)) (tC (.int 0))) (tVar 2)))) (te := (tVar 4)) rfl sc_law_gathered_by.nd rfl rfl (sw_true rfl rfl rfl (by decide +kernel)) (pi_list (pe_callB (call_sortedDI rfl) (by rfl) T.z_sorted (by decide +kernel) (pa_cons (pv 0) pa_nil))) (blkOk_by (own := [("_law_page", 4)]) (N := ["_law_model", "_law_length", "_law_size", "_law_pages", "_law_page", "_law_slots", "_law_needed", "_law_ranked", "_law_stay", "_law_pair", "_law_moves", "_law_slot", "_law_goal", "_law_one", "_law_there"]) (sc := defScope s_law_gathered_by) (by decide +kernel)) (fun _ _ _ _ _ => pg_name (i := 4) sc_law_gathered_by.nd rfl (Or.inl rfl)) (fun _ _ _ _ _ => pts_one (pt_cmpR op_eq (pe_ix ix_list (pe_dget (hu_of hr) (pv 0) (pv 4) (fun _ _ => rfl)) pe_int (fun _ _ => rfl)) (pv 2) (nomark _))) (fun _ _ _ _ _ => (pv 4)))
    (pss_cons (ps_set (i := 5) sc_law_gathered_by.nd rfl (Or.inl rfl) (pe_op op_fdiv (pv 1) (pv 2)))
    (pss_cons (ps_set (i := 6) sc_law_gathered_by.nd rfl (Or.inl rfl) (pe_op op_fdiv (pe_op op_sub (pe_op op_add (pe_callB (cr_sum rfl) (by rfl) T.z_sum (by decide +kernel) (pa_cons (pe_lc (own := [("_law_page", 4)]) (g := gName 4) (tt := tYes) (te := (tBM K "list" (rCntB K) (tOp (rIxL K) (tDGet (tVar 0) (tVar 4)) (tC (.int 1))) (tCons (tC (.bl true)) tNil))) rfl sc_law_gathered_by.nd (pi_list (pv 3)) (blkOk_by (own := [("_law_page", 4)]) (N := ["_law_model", "_law_length", "_law_size", "_law_pages", "_law_page", "_law_slots", "_law_needed", "_law_ranked", "_law_stay", "_law_pair", "_law_moves", "_law_slot", "_law_goal", "_law_one", "_law_there"]) (sc := defScope s_law_gathered_by) (by decide +kernel)) (fun _ _ _ _ _ => pg_name (i := 4) sc_law_gathered_by.nd rfl (Or.inl rfl)) (fun _ _ _ _ _ => pts_nil) (fun _ _ _ _ _ => (pe_bm PySem.F.plainAttrs_list PySem.F.slot_list_count PySem.F.type_list_count mt_lcountB (pe_ix ix_list (pe_dget (hu_of hr) (pv 0) (pv 4) (fun _ _ => rfl)) pe_int (fun _ _ => rfl)) (pa_cons pe_bl pa_nil)))) pa_nil)) (pv 5)) pe_int) (pv 5)))
    (pss_cons (ps_set (i := 7) sc_law_gathered_by.nd rfl (Or.inl rfl) (pe_slice sl_list (pe_callB cr_sortedPO (by rfl) T.z_sorted (by decide +kernel) (pa_cons (pe_lc (own := [("_law_page", 4)]) (g := gName 4) (tt := tYes) (te := (L2.tTup (tCons (tUn (rU fun i => .int (-i)) (tBM K "list" (rCntB K) (tOp (rIxL K) (tDGet (tVar 0) (tVar 4)) (tC (.int 1))) (tCons (tC (.bl true)) tNil))) (tCons (tVar 4) tNil)))) rfl sc_law_gathered_by.nd (pi_list (pv 3)) (blkOk_by (own := [("_law_page", 4)]) (N := ["_law_model", "_law_length", "_law_size", "_law_pages", "_law_page", "_law_slots", "_law_needed", "_law_ranked", "_law_stay", "_law_pair", "_law_moves", "_law_slot", "_law_goal", "_law_one", "_law_there"]) (sc := defScope s_law_gathered_by) (by decide +kernel)) (fun _ _ _ _ _ => pg_name (i := 4) sc_law_gathered_by.nd rfl (Or.inl rfl)) (fun _ _ _ _ _ => pts_nil) (fun _ _ _ _ _ => (pe_tup (pa_cons (pe_un un_neg (pe_bm PySem.F.plainAttrs_list PySem.F.slot_list_count PySem.F.type_list_count mt_lcountB (pe_ix ix_list (pe_dget (hu_of hr) (pv 0) (pv 4) (fun _ _ => rfl)) pe_int (fun _ _ => rfl)) (pa_cons pe_bl pa_nil))) (pa_cons (pv 4) pa_nil))))) pa_nil)) po_none (po_some (pv 6))))
    (pss_cons (ps_set (i := 8) sc_law_gathered_by.nd rfl (Or.inr rfl) (pe_callB cr_sortedI (by rfl) T.z_sorted (by decide +kernel) (pa_cons (pe_lc (own := [("_law_pair", 9)]) (g := gName 9) (tt := tYes) (te := (tOp (rIxT K) (tVar 9) (tC (.int 1)))) rfl sc_law_gathered_by.nd (pi_list (pv 7)) (blkOk_by (own := [("_law_pair", 9)]) (N := ["_law_model", "_law_length", "_law_size", "_law_pages", "_law_page", "_law_slots", "_law_needed", "_law_ranked", "_law_stay", "_law_pair", "_law_moves", "_law_slot", "_law_goal", "_law_one", "_law_there"]) (sc := defScope s_law_gathered_by) (by decide +kernel)) (fun _ _ _ _ _ => pg_name (i := 9) sc_law_gathered_by.nd rfl (Or.inl rfl)) (fun _ _ _ _ _ => pts_nil) (fun _ _ _ _ _ => (pe_ix ix_tup (pv 9) pe_int (fun _ _ => rfl)))) pa_nil)))
    (pss_cons (ps_set (i := 10) sc_law_gathered_by.nd rfl (Or.inl rfl) (pe_lst pa_nil))
    (pss_cons (ps_for (passes_of rfl) rfl (pi_list (pe_lc (own := [("_law_page", 4)]) (g := gName 4) (tt := (tTest (tOp (rIn K true) (tVar 4) (tVar 8)))) (te := (tVar 4)) rfl sc_law_gathered_by.nd (pi_list (pv 3)) (blkOk_by (own := [("_law_page", 4)]) (N := ["_law_model", "_law_length", "_law_size", "_law_pages", "_law_page", "_law_slots", "_law_needed", "_law_ranked", "_law_stay", "_law_pair", "_law_moves", "_law_slot", "_law_goal", "_law_one", "_law_there"]) (sc := defScope s_law_gathered_by) (by decide +kernel)) (fun _ _ _ _ _ => pg_name (i := 4) sc_law_gathered_by.nd rfl (Or.inl rfl)) (fun _ _ _ _ _ => pts_one (pt_cmpR op_notIn_seq (pv 4) (pv 8) rfl)) (fun _ _ _ _ _ => (pv 4)))) (pg_name (i := 4) sc_law_gathered_by.nd rfl (Or.inl rfl))
    (pss_cons (ps_for (passes_of rfl) rfl (pi_range1 (by rfl) T.z_range (pa_cons (pv 5) pa_nil)) (pg_name (i := 11) sc_law_gathered_by.nd rfl (Or.inl rfl))
    (pss_one (ps_if (pt_val (pe_ix ix_list (pe_ix ix_list (pe_dget (hu_of hr) (pv 0) (pv 4) (fun _ _ => rfl)) pe_int (fun _ _ => rfl)) (pv 11) (fun _ _ => rfl))) (pss_cons (ps_set (i := 12) sc_law_gathered_by.nd rfl (Or.inl rfl) (pe_ix ix_list (pe_lc (own := [("_law_one", 13)]) (g := gName 13) (tt := (tTest (tOp (rIn K false) (tC (.bl false)) (tOp (rIxL K) (tDGet (tVar 0) (tVar 13)) (tC (.int 1)))))) (te := (tVar 13)) rfl sc_law_gathered_by.nd (pi_list (pv 8)) (blkOk_by (own := [("_law_one", 13)]) (N := ["_law_model", "_law_length", "_law_size", "_law_pages", "_law_page", "_law_slots", "_law_needed", "_law_ranked", "_law_stay", "_law_pair", "_law_moves", "_law_slot", "_law_goal", "_law_one", "_law_there"]) (sc := defScope s_law_gathered_by) (by decide +kernel)) (fun _ _ _ _ _ => pg_name (i := 13) sc_law_gathered_by.nd rfl (Or.inl rfl)) (fun _ _ _ _ _ => pts_one (pt_cmpR op_in_seq pe_bl (pe_ix ix_list (pe_dget (hu_of hr) (pv 0) (pv 13) (fun _ _ => rfl)) pe_int (fun _ _ => rfl)) rfl)) (fun _ _ _ _ _ => (pv 13))) pe_int (fun _ _ => rfl)))
    (pss_cons (ps_set (i := 14) sc_law_gathered_by.nd rfl (Or.inl rfl) (pe_bm PySem.F.plainAttrs_list PySem.F.slot_list_index PySem.F.type_list_index mt_index (pe_ix ix_list (pe_dget (hu_of hr) (pv 0) (pv 12) (fun _ _ => rfl)) pe_int (fun _ _ => rfl)) (pa_cons pe_bl pa_nil)))
    (pss_cons (ps_asg pe_bl (pg_sub (pe_ix ix_list (pe_dget (hu_of hr) (pv 0) (pv 12) (fun _ _ => rfl)) pe_int (fun _ _ => rfl)) (pv 14) set_list))
    (pss_one (ps_expr (pe_bm PySem.F.plainAttrs_list PySem.F.slot_list_append PySem.F.type_list_append mt_append (pv 10) (pa_cons (pe_tup (pa_cons (pe_op op_add (pe_op op_mul (pv 4) (pv 1)) (pe_op op_mul (pv 11) (pv 2))) (pa_cons (pe_op op_add (pe_op op_mul (pv 12) (pv 1)) (pe_op op_mul (pv 14) (pv 2))) pa_nil))) pa_nil)))))))
    pss_nil)))
    (pss_one (ps_expr (pe_dpop1 (pv 0) (pv 4) ⟨by rfl, by rfl, by rfl, by rfl⟩)))))
    (pss_one (ps_ret (pv 10)))))))))), ?_⟩
    have hz := mok.zr hmem
    have hn40 := plen m mok
    have hl60 := mok.L60
    have hL := mok.eL
    have hd60 : m.L / k ≤ 60 := Nat.le_trans (Nat.div_le_self _ _) hl60
    have hp1 := per1 hz.1 hz.2
    have own40 : (own s.S m.n k).length ≤ 40 := Nat.le_trans (own_len _ _ _) hn40
    -- the pages of that size
    obtain ⟨g1, g2, g3⟩ := I.keysD hn40
    refine ⟨_, rfl, _, _, _, rfl, .inl I.d, g1, g2, fun ys p h1 h2 hp => ?_⟩
    obtain rfl := g3 ys h1 h2
    rw [castI_V]
    refine ⟨p, rfl, ⟨_, SqL.of upd_same⟩, fun D1 hD1 => ?_⟩
    have hD10 : H D1 = none := by rw [upd_ne (fun e => by rw [e, upd_same] at hD1; cases hD1)] at hD1; exact hD1
    have npD : p ≠ D1 := fun e => by rw [e, upd_same] at hD1; cases hD1
    refine lc_list (K := K) (a := p) (xs := nV (pgs s.S m.n)) (fun i H' => Same H H' ∧ H' p = some (.lst (nV (pgs s.S m.n))) ∧ H' D1 = some (.lst (nV (((pgs s.S m.n).take i).filter fun i => decide ((sfOf s.S i).z = k))))) ⟨sm_new (sm_n hp) hD10, ?_, upd_same⟩ (fun i H' _ h => SqL.of h.2.1) ?_ ?_
    · rw [upd_ne npD]; exact upd_same
    · rintro i x H' hx ⟨sm, e2, e3⟩
      obtain ⟨q, hq, rfl⟩ := nV_at hx
      obtain ⟨y, hy⟩ := pgs_at hq
      have I' := I.same sm
      have ey : sfOf s.S q = y := sfOf_at hy
      refine ⟨rfl, ?_⟩
      refine ⟨_, rfl, _, rfl, _, _, rfl, I'.dget hy, _, _, _, _, rfl, rfl, SqL.of (I'.p hy), at_of (j := 0) (by decide) rfl, _, rfl, rfl, _, rfl, iteD (fun h => ?_) (fun h => ?_)⟩
      · have h' : y.z = k := by
          have h'' : V.int ((y.z : Nat) : Int) = V.int ((k : Nat) : Int) := h
          injection h'' with h''; exact Int.ofNat.inj h''
        refine ⟨_, rfl, _, e3, ?_, sm_new sm hD10, ?_, ?_⟩
        · rw [List.length_map]
          refine Nat.lt_of_le_of_lt (List.length_filter_le _ _) ?_
          rw [List.length_take]
          exact Nat.lt_of_le_of_lt (Nat.le_trans (Nat.min_le_right _ _) (Nat.le_trans (pgs_len _ _) hn40)) (by decide)
        · rw [upd_ne npD]; exact e2
        · rw [upd_same, filt_snoc hq, if_pos (by rw [ey]; exact decide_eq_true h'), nV_snoc]
      · have h' : ¬ y.z = k := fun e => h (by show V.int ((y.z : Nat) : Int) = V.int ((k : Nat) : Int); rw [e])
        refine ⟨sm, e2, ?_⟩
        rw [e3, filt_snoc hq, if_neg (by rw [ey, decide_eq_false h']; decide), List.append_nil]
    rintro H1 ⟨sm1, _, eD1⟩
    have el : (nV (pgs s.S m.n)).length = (pgs s.S m.n).length := List.length_map _
    rw [el, List.take_length] at eD1
    have eD1 : H1 D1 = some (.lst (nV (own s.S m.n k))) := eD1
    have ell : (nV (own s.S m.n k)).length = (own s.S m.n k).length := List.length_map _
    have geto : ∀ {i q : Nat}, (own s.S m.n k)[i]? = some q → ∃ y, s.S q = some y := fun h => by
      obtain ⟨_, y, hy, _⟩ := mem_own.mp (List.mem_of_getElem? h)
      exact ⟨y, hy⟩
    -- how many slots, how many are needed
    refine ⟨_, rfl, _, rfl, rI_to (r := .int (m.L / k : Nat)) _ _ ⟨by omega, by omega⟩ (by rw [per_cast mok]) ?_⟩
    refine ⟨_, rfl, D1, rfl, ⟨_, SqL.of eD1⟩, fun D2 hD2 => ?_⟩
    have hD20 : H D2 = none := by
      cases c : H D2 with
      | none => rfl
      | some o => rw [sm1 _ _ c] at hD2; cases hD2
    have nD12 : D1 ≠ D2 := fun e => by rw [e, hD2] at eD1; cases eD1
    refine lc_list (K := K) (a := D1) (xs := nV (own s.S m.n k)) (fun i H' => Same H1 H' ∧ H' D2 = some (.lst (((own s.S m.n k).take i).map fun i => V.int ((cn s.S i : Nat) : Int)))) ⟨sm_n hD2, upd_same⟩ (fun i H' _ h => SqL.of (h.1 _ _ eD1)) ?_ ?_
    · rintro i x H' hx ⟨sm, e3⟩
      obtain ⟨q, hq, rfl⟩ := nV_at hx
      obtain ⟨y, hy⟩ := geto hq
      have I' := (I.same sm1).same sm
      refine ⟨rfl, ?_⟩
      refine ⟨_, rfl, _, rfl, _, _, rfl, I'.dget hy, _, _, _, _, rfl, rfl, SqL.of (I'.p hy), at_of (j := 1) (by decide) rfl, .inl ⟨rfl, _, SqL.of (I'.t hy)⟩, _, _, _, rfl, rfl, SqL.of (I'.t hy), _, e3, ?_, sm_new sm hD2, ?_⟩
      · rw [List.length_map, List.length_take]
        exact Nat.lt_of_le_of_lt (Nat.le_trans (Nat.min_le_right _ _) own40) (by decide)
      · rw [upd_same, take_at hq, List.map_append, List.map_singleton, cn_at hy]
    rintro H2 ⟨sm2, eD2⟩
    rw [ell, List.take_length] at eD2
    have sm02 : Same H H2 := fun b o e => sm2 _ _ (sm1 _ _ e)
    have eD2' : H2 D2 = some (.lst (((own s.S m.n k).map fun i => ((cn s.S i : Nat) : Int)).map V.int)) := by rw [eD2, List.map_map]; rfl
    have esum := sum_cast s.S (own s.S m.n k)
    refine ⟨D2, _, rfl, SqL.of eD2', ?_⟩
    rw [esum]
    have eneed : (((sumC s.S (own s.S m.n k) : Nat) : Int) + ((m.L / k : Nat) : Int) - 1) / ((m.L / k : Nat) : Int) = ((needL s.S (own s.S m.n k) (m.L / k) : Nat) : Int) := by
      unfold needL
      generalize m.L / k = u at hp1 ⊢
      rw [show ((sumC s.S (own s.S m.n k) : Nat) : Int) + (u : Nat) - 1 = ((sumC s.S (own s.S m.n k) + u - 1 : Nat) : Int) by omega]
      exact (Int.natCast_ediv _ _).symm
    refine ⟨_, rfl, _, _, rfl, rfl, _, _, rfl, rfl, _, rfl, rI_to (r := .int (needL s.S (own s.S m.n k) (m.L / k) : Nat)) _ _ ⟨?_, ?_⟩ (by rw [eneed]) ?_⟩
    · show (0 : Int) < ((m.L / k : Nat) : Int); omega
    · show ((m.L / k : Nat) : Int) < 1073741824; omega
    -- ranked
    have eD12 := sm2 _ _ eD1
    refine ⟨_, rfl, D1, rfl, ⟨_, SqL.of eD12⟩, fun D3 hD3 => ?_⟩
    have nD13 : D1 ≠ D3 := fun e => by rw [e, hD3] at eD12; cases eD12
    refine lc_list (K := K) (a := D1) (xs := nV (own s.S m.n k)) (fun i H' => Same H2 H' ∧ TupL H' D3 ((((own s.S m.n k).take i).map (rkP s.S)).map pairI)) ⟨sm_n hD3, TupL.nil upd_same⟩ (fun i H' _ h => SqL.of (h.1 _ _ eD12)) ?_ ?_
    · rintro i x H' hx ⟨sm, e3⟩
      obtain ⟨q, hq, rfl⟩ := nV_at hx
      obtain ⟨y, hy⟩ := geto hq
      have I' := (I.same sm02).same sm
      refine ⟨rfl, ?_⟩
      refine ⟨_, rfl, _, rfl, _, _, rfl, I'.dget hy, _, _, _, _, rfl, rfl, SqL.of (I'.p hy), at_of (j := 1) (by decide) rfl, .inl ⟨rfl, _, SqL.of (I'.t hy)⟩, _, _, _, rfl, rfl, SqL.of (I'.t hy), _, rfl, _, rfl, (by show 2 ≤ sizeLine; decide), fun t ht => ?_⟩
      have ev : HO.tup [V.int (-((y.tk.count true : Nat) : Int)), V.int (q : Nat)] = .tup (pairI (rkP s.S q)) := by unfold rkP; rw [cn_at hy]; rfl
      have f3 := e3.keep (sm_n (o := .tup (pairI (rkP s.S q))) ht)
      obtain ⟨xs, a1, a2, a3⟩ := f3.snoc (t := t) (r := pairI (rkP s.S q)) upd_same
      rw [← ev] at a1 a3
      refine ⟨xs, a1, ?_, Same.up (fun b o e => sm_n ht _ _ (sm _ _ e)) hD3, ?_⟩
      · rw [a2, List.length_map, List.length_map, List.length_take]
        exact Nat.lt_of_le_of_lt (Nat.le_trans (Nat.min_le_right _ _) own40) (by decide)
      · rw [take_at hq, List.map_append, List.map_append, List.map_singleton, List.map_singleton]
        exact a3
    rintro H3 ⟨sm3, eD3⟩
    rw [ell, List.take_length] at eD3
    have sm03 : Same H H3 := fun b o e => sm3 _ _ (sm02 _ _ e)
    obtain ⟨sx, sk, sq1, sq2, sq3⟩ := sorted_pairsI (K := K) eD3
    refine ⟨D3, sx, sk, rfl, sq1, sq2, fun ys0 p0 hs0 st0 np0 => ?_⟩
    obtain ⟨l', pm1, pw1, tp1⟩ := sq3 ys0 p0 hs0 st0 np0
    obtain rfl := ranked_is pm1 pw1
    have sm4 := sm_n (o := .lst ys0) np0
    have hp04 : upd H3 p0 (.lst ys0) p0 = some (.lst ys0) := upd_same
    generalize upd H3 p0 (.lst ys0) = H4 at tp1 sm4 hp04 ⊢
    refine ⟨_, rfl, _, rfl, p0, _, rfl, SqL.of hp04, fun u hu => ?_⟩
    rw [cutV_take]
    have tp2 := tp1.take hp04 hu (needL s.S (own s.S m.n k) (m.L / k))
    have sm5 := sm_n (o := .lst (ys0.take (needL s.S (own s.S m.n k) (m.L / k)))) hu
    generalize upd H4 u (.lst (ys0.take (needL s.S (own s.S m.n k) (m.L / k)))) = H5 at tp2 sm5 ⊢
    rw [← List.map_take, ← List.map_take] at tp2
    have sm05 : Same H H5 := fun b o e => sm5 _ _ (sm4 _ _ (sm03 _ _ e))
    -- stay
    obtain ⟨xs5, hx5, hl5⟩ := tp2.list
    rw [List.length_map, List.length_map] at hl5
    generalize hrt : (rankedL s.S (own s.S m.n k)).take (needL s.S (own s.S m.n k) (m.L / k)) = rt at tp2 hl5 ⊢
    have rt40 : rt.length ≤ 40 := by
      rw [← hrt, List.length_take, (ranked_perm _ _).length_eq]
      omega
    refine ⟨_, rfl, u, rfl, ⟨_, SqL.of hx5⟩, fun D4 hD4 => ?_⟩
    refine lc_list (K := K) (a := u) (xs := xs5) (fun i H' => Same H5 H' ∧ H' D4 = some (.lst (nV (rt.take i)))) ⟨sm_n hD4, upd_same⟩ (fun i H' _ h => SqL.of (h.1 _ _ hx5)) ?_ ?_
    · rintro i x H' hx ⟨sm, e3⟩
      obtain ⟨t, r, rfl, hr', ht⟩ := tp2.at hx5 hx
      rw [List.getElem?_map, List.getElem?_map] at hr'
      cases eq : rt[i]? with
      | none => rw [eq] at hr'; cases hr'
      | some q =>
      rw [eq] at hr'
      obtain rfl : pairI (rkP s.S q) = r := Option.some.inj hr'
      refine ⟨rfl, ?_⟩
      refine ⟨_, rfl, t, _, _, .int (q : Nat), rfl, rfl, .inl (.inl (sm _ _ ht)), at_of (j := 1) (by decide) rfl, _, e3, ?_, sm_new sm hD4, ?_⟩
      · rw [List.length_map, List.length_take]
        exact Nat.lt_of_le_of_lt (Nat.le_trans (Nat.min_le_right _ _) rt40) (by decide)
      · rw [upd_same, take_at eq, nV_snoc]
    rintro H6 ⟨sm6, eD4⟩
    rw [hl5, List.take_length] at eD4
    have eD4' : H6 D4 = some (.lst ((castI rt).map V.int)) := by rw [castI_V]; exact eD4
    refine ⟨D4, _, rfl, SqL.of eD4', fun ys1 st h1 h2 hst => ?_⟩
    obtain rfl : ys1 = castI (stayO m s.S k) := ranked_stay (own_lt _ _ _) (by rw [hrt]; exact h1) h2
    rw [castI_V]
    have sm06 : Same H H6 := fun b o e => sm6 _ _ (sm05 _ _ e)
    have sm7 := sm_n (o := .lst (nV (stayO m s.S k))) hst
    have est : upd H6 st (.lst (nV (stayO m s.S k))) st = some (.lst (nV (stayO m s.S k))) := upd_same
    have hst0 : H st = none := by
      cases c : H st with
      | none => rfl
      | some o => rw [sm06 _ _ c] at hst; cases hst
    have eD16 : H6 D1 = some (.lst (nV (own s.S m.n k))) := sm6 _ _ (sm5 _ _ (sm4 _ _ (sm3 _ _ eD12)))
    have eD17 := sm7 _ _ eD16
    generalize upd H6 st (.lst (nV (stayO m s.S k))) = H7 at sm7 est eD17 ⊢
    have sm07 : Same H H7 := fun b o e => sm7 _ _ (sm06 _ _ e)
    have stay40 : (stayO m s.S k).length ≤ 40 := Nat.le_trans (List.length_filter_le _ _) own40
    have leave40 : (leaveO m s.S k).length ≤ 40 := Nat.le_trans (List.length_filter_le _ _) own40
    -- moves
    refine ⟨(by decide), fun M hM => ?_⟩
    have hM0 : H M = none := by
      cases c : H M with
      | none => rfl
      | some o => rw [sm07 _ _ c] at hM; cases hM
    have sm8 := sm_n (o := .lst []) hM
    have eM : upd H7 M (.lst []) M = some (.lst []) := upd_same
    have est8 := sm8 _ _ est
    have eD18 := sm8 _ _ eD17
    have nstM : st ≠ M := fun e => by rw [e, hM] at est; cases est
    generalize upd H7 M (.lst []) = H8 at sm8 eM est8 eD18 ⊢
    have sm08 : Same H H8 := fun b o e => sm8 _ _ (sm07 _ _ e)
    -- which leave
    refine ⟨_, rfl, D1, rfl, ⟨_, SqL.of eD18⟩, fun lp hlp => ?_⟩
    have hlp0 : H lp = none := by
      cases c : H lp with
      | none => rfl
      | some o => rw [sm08 _ _ c] at hlp; cases hlp
    have nMlp : M ≠ lp := fun e => by rw [e, hlp] at eM; cases eM
    have nstlp : st ≠ lp := fun e => by rw [e, hlp] at est8; cases est8
    refine lc_list (K := K) (a := D1) (xs := nV (own s.S m.n k)) (fun i H' => Same H8 H' ∧ H' lp = some (.lst (nV (((own s.S m.n k).take i).filter fun i => decide (i ∉ stayO m s.S k))))) ⟨sm_n hlp, upd_same⟩ (fun i H' _ h => SqL.of (h.1 _ _ eD18)) ?_ ?_
    · rintro i x H' hx ⟨sm, e3⟩
      obtain ⟨q, hq, rfl⟩ := nV_at hx
      refine ⟨rfl, ?_⟩
      refine ⟨_, rfl, _, rfl, _, _, rfl, .inl (SqL.of (sm _ _ est8)), rfl, all_flat_nat _, _, rfl, ?_⟩
      have ei : inV (V.int ((q : Nat) : Int)) (nV (stayO m s.S k)) = decide (q ∈ stayO m s.S k) := inV_nat _ _
      rw [if_pos rfl, ei]
      refine iteND (fun h => ?_) (fun h => ?_)
      · refine ⟨_, rfl, _, e3, ?_, sm_new sm hlp, ?_⟩
        · rw [List.length_map]
          refine Nat.lt_of_le_of_lt (List.length_filter_le _ _) ?_
          rw [List.length_take]
          exact Nat.lt_of_le_of_lt (Nat.le_trans (Nat.min_le_right _ _) own40) (by decide)
        · rw [upd_same, filt_snoc hq, if_pos (decide_eq_true h), nV_snoc]
      · refine ⟨sm, ?_⟩
        rw [e3, filt_snoc hq, if_neg (by rw [decide_eq_false (fun z => z h)]; decide), List.append_nil]
    rintro H9 ⟨sm9, elp⟩
    rw [ell, List.take_length] at elp
    have elp : H9 lp = some (.lst (nV (leaveO m s.S k))) := elp
    have eM9 := sm9 _ _ eM
    have est9 := sm9 _ _ est8
    have sm09 : Same H H9 := fun b o e => sm9 _ _ (sm08 _ _ e)
    have ellv : (nV (leaveO m s.S k)).length = (leaveO m s.S k).length := List.length_map _
    have nfl : ∀ a, H a = none → ¬ footM s a := fun a h => I.nofoot h
    have nst := nfl st hst0
    have nM := nfl M hM0
    have nlp := nfl lp hlp0
    refine ⟨lp, rfl, ⟨_, SqL.of elp⟩, for_list (K := K) (a := lp) (xs := nV (leaveO m s.S k)) (fun t σ H' => GB H m s k st M lp t 0 (gAt m s.S cs k t) H' ∧ ∃ v4 v9 v11 v12 v13 v14, σ = [some (.ref (s.ad .d)), some (.int m.length), some (.int (k : Nat)), some (.ref D1), v4, some (.int (m.L / k : Nat)), some (.int (needL s.S (own s.S m.n k) (m.L / k) : Nat)), some (.ref u), some (.ref st), v9, some (.ref M), v11, v12, v13, v14])
      ⟨⟨Lv.zero, ⟨s, I.same sm09, rfl, tm_zero.symm, fun _ h => h⟩, fun a o e _ => sm09 _ _ e, est9, elp, TupL.nil eM9⟩, _, _, _, _, _, _, rfl⟩ (fun t σ H' _ h => SqL.of h.1.elp) ?_ ?_⟩
    · rintro t xv σ Ha hx ⟨gb, v4, v9, v11, v12, v13, v14, rfl⟩
      obtain ⟨i, hi, rfl⟩ := nV_at hx
      have hil := List.mem_of_getElem? hi
      have hio := (mem_leave.mp hil).1
      obtain ⟨x, hxS, xz, xl⟩ := own_get ok (SameSh.refl s.S) hio
      have i40 : i < 40 := by obtain ⟨h, _⟩ := mem_own.mp hio; omega
      refine ⟨_, rfl, _, rfl, (by generalize m.L / k = u at hd60 ⊢; omega), (by generalize m.L / k = u at hd60 ⊢; omega), for_range (lo := 0) (n := _) (fun j σ H' => GB H m s k st M lp t j ((List.range j).foldl (mv1 m (stayO m s.S k) i) (gAt m s.S cs k t)) H' ∧ ∃ v9 v11 v12 v13 v14, σ = [some (.ref (s.ad .d)), some (.int m.length), some (.int (k : Nat)), some (.ref D1), some (.int (i : Nat)), some (.int (m.L / k : Nat)), some (.int (needL s.S (own s.S m.n k) (m.L / k) : Nat)), some (.ref u), some (.ref st), v9, some (.ref M), v11, v12, v13, v14]) ⟨gb, _, _, _, _, _, rfl⟩ ?_ ?_⟩
      · rintro j σ Hb hj ⟨gb, v9, v11, v12, v13, v14, rfl⟩
        have hj2 : j < m.L / k := by rw [Int.toNat_natCast] at hj; exact hj
        have esc : (List.range (j + 1)).foldl (mv1 m (stayO m s.S k) i) (gAt m s.S cs k t) = mv1 m (stayO m s.S k) i ((List.range j).foldl (mv1 m (stayO m s.S k) i) (gAt m s.S cs k t)) j := by rw [List.range_succ, foldl_snoc']
        rw [esc]
        generalize (List.range j).foldl (mv1 m (stayO m s.S k) i) (gAt m s.S cs k t) = G at gb ⊢
        obtain ⟨s', I', eD, eS, eF⟩ := gb.md
        have hiS : s'.S i = some x := by rw [eS, tm_cur hi]; exact hxS
        have dg : ∀ {H3 : Hp} {q : Nat} {x : Sf}, Same Hb H3 → s'.S q = some x → DGet H3 (s.ad .d) (.int (q : Nat)) (some (.ref (s'.ad (.p q)))) := fun sm h => by rw [← eD]; exact (I'.same sm).dget h
        have sr : Same Hb Hb := fun _ _ e => e
        obtain ⟨b, hb⟩ : ∃ b, x.tk[j]? = some b := ⟨_, List.getElem?_eq_getElem (by rw [xl]; exact hj2)⟩
        have old := gb.lv.old t i j hi (.inr ⟨rfl, Nat.le_refl _⟩)
        rw [sfOf_at hxS, hb] at old
        obtain ⟨y0, hy0, y0z, y0l⟩ := own_get ok gb.lv.gp.same hio
        rw [sfOf_at hy0] at old
        refine ⟨_, rfl, _, rfl, _, _, rfl, dg sr hiS, _, _, _, _, rfl, rfl, SqL.of (I'.p hiS), at_of (j := 1) (by decide) rfl, _, rfl, _, _, _, .bl b, rfl, rfl, SqL.of (I'.t hiS), at_of (j := j) (by omega) (bl_at hb), _, rfl, ?_⟩
        rcases mv1_cases (j := j) mok ok hmem gb.lv.gp hil with ⟨e, hno⟩ | ⟨g, j2, mv, e, gp'⟩
        · rw [e]
          refine iteB (fun h => ?_) (fun h => ?_)
          · exact absurd ⟨y0, hy0, by rw [old, h], y0z⟩ hno
          · exact ⟨⟨gb.lv.skip, gb.md, gb.keep, gb.est, gb.elp, gb.mv⟩, _, _, _, _, _, rfl⟩
        rw [e]
        have hb1 : b = true := by
          obtain ⟨y1, hy1, h1, _⟩ := mv.has
          rw [hy0] at hy1
          obtain rfl := Option.some.inj hy1
          rw [old] at h1
          exact Option.some.inj h1
        refine iteB (fun _ => ?_) (fun h => by rw [hb1] at h; cases h)
        -- the goal
        refine ⟨_, rfl, st, rfl, ⟨_, SqL.of gb.est⟩, fun D hD => ?_⟩
        refine lc_list (K := K) (a := st) (xs := nV (stayO m s.S k)) (fun u H'' => Same Hb H'' ∧ H'' D = some (.lst (nV (((stayO m s.S k).take u).filter (hasFree G.S))))) ⟨sm_n hD, upd_same⟩ (fun i H' _ h => SqL.of (h.1 _ _ gb.est)) ?_ ?_
        · rintro u' v Hc hx' ⟨smc, e3⟩
          obtain ⟨q, hq, rfl⟩ := nV_at hx'
          have hqs := List.mem_of_getElem? hq
          obtain ⟨y, hy, yz, yl⟩ := own_get ok gb.lv.gp.same (stay_own hqs)
          have hqS : s'.S q = some y := by rw [eS, tm_stay (stay_leave hqs)]; exact hy
          have Ic := I'.same smc
          have hf : hasFree G.S q = decide (cnt y.tk < y.tk.length) := by unfold hasFree; rw [sfOf_at hy]
          refine ⟨rfl, ?_⟩
          refine ⟨_, rfl, _, rfl, _, _, rfl, dg smc hqS, _, _, _, _, rfl, rfl, SqL.of (Ic.p hqS), at_of (j := 1) (by decide) rfl, _, _, rfl, .inl (SqL.of (Ic.t hqS)), rfl, bls_flat _, _, rfl, ?_⟩
          rw [if_neg (by decide), inV_bl]
          refine iteB (fun h => ?_) (fun h => ?_)
          · refine ⟨_, rfl, _, e3, ?_, sm_new smc hD, ?_⟩
            · rw [List.length_map]
              refine Nat.lt_of_le_of_lt (List.length_filter_le _ _) ?_
              rw [List.length_take]
              exact Nat.lt_of_le_of_lt (Nat.le_trans (Nat.min_le_right _ _) stay40) (by decide)
            · rw [upd_same, filt_snoc hq, if_pos (by rw [hf]; exact decide_eq_true (cnt_false.mp h)), nV_snoc]
          · refine ⟨smc, ?_⟩
            rw [e3, filt_snoc hq, if_neg (by rw [hf, decide_eq_false (fun z => by rw [cnt_false.mpr z] at h; cases h)]; decide), List.append_nil]
        rintro Hc ⟨smc, e3⟩
        have elst : (nV (stayO m s.S k)).length = (stayO m s.S k).length := List.length_map _
        rw [elst, List.take_length] at e3
        obtain ⟨y, hy, yz, hj2f⟩ := mv.fr
        have hgS : s'.S g = some y := by rw [eS, tm_stay (stay_leave mv.gs)]; exact hy
        have gbc := gb.same smc
        have Ic := I'.same smc
        have g40 : g < 40 := by obtain ⟨h, _⟩ := mem_own.mp (stay_own mv.gs); omega
        have j260 : j2 < 60 := by
          have := ff_lt hj2f
          obtain ⟨y', hy', _, yl⟩ := own_get ok gb.lv.gp.same (stay_own mv.gs)
          rw [hy] at hy'
          obtain rfl := Option.some.inj hy'
          omega
        refine ⟨_, _, _, .int (g : Nat), rfl, rfl, SqL.of e3, at_of (j := 0) (by decide) (by rw [List.getElem?_map, head_find mv.hf]; rfl), ?_⟩
        refine ⟨_, rfl, _, rfl, _, _, rfl, dg smc hgS, _, _, _, _, rfl, rfl, SqL.of (Ic.p hgS), at_of (j := 1) (by decide) rfl, .inl ⟨rfl, _, SqL.of (Ic.t hgS)⟩, _, _, _, j2, .bl false, rfl, rfl, SqL.of (Ic.t hgS), rfl, bls_flat _, bl_at (ff_at hj2f), rfl, (fun m' z' hm hz' => ?_), ?_⟩
        · rw [bl_at (ff_before hj2f m' hm)] at hz'
          cases hz'; rfl
        refine ⟨_, rfl, _, rfl, _, _, rfl, dg smc hgS, _, _, _, _, rfl, rfl, SqL.of (Ic.p hgS), at_of (j := 1) (by decide) rfl, _, rfl, _, _, _, j2, rfl, rfl, Ic.t hgS, ?_, ?_⟩
        · rw [List.length_map]; exact ixN_at (ff_lt hj2f)
        have eset : (y.tk.map V.bl).set j2 (.bl true) = (y.tk.set j2 true).map V.bl := by rw [List.map_set]
        have lt : liveM s'.S (.t g) := by show (s'.S g).isSome = true; rw [hgS]; rfl
        have inF : footM s (s'.ad (.t g)) := eF _ ⟨_, lt, rfl⟩
        have Id := Ic.setT (y := ⟨y.z, y.tk.set j2 true⟩) hgS rfl
        have efd := footM_set (s := s') (y := ⟨y.z, y.tk.set j2 true⟩) hgS
        rw [eset]
        have hT : ∀ r, Hc (s'.ad (.t g)) ≠ some (.tup r) := fun r h => by rw [Ic.t hgS] at h; cases h
        have gbd : GB H m s k st M lp t j G Hc := gbc
        have mvd := gbd.mv.updO (o := .lst ((y.tk.set j2 true).map V.bl)) (fun z => nM (by rw [z]; exact inF)) hT
        have estd : upd Hc (s'.ad (.t g)) (.lst ((y.tk.set j2 true).map V.bl)) st = some (.lst (nV (stayO m s.S k))) := by rw [upd_ne (fun z => nst (by rw [z]; exact inF))]; exact gbd.est
        have elpd : upd Hc (s'.ad (.t g)) (.lst ((y.tk.set j2 true).map V.bl)) lp = some (.lst (nV (leaveO m s.S k))) := by rw [upd_ne (fun z => nlp (by rw [z]; exact inF))]; exact gbd.elp
        have keepd : ∀ a o, H a = some o → ¬ footM s a → upd Hc (s'.ad (.t g)) (.lst ((y.tk.set j2 true).map V.bl)) a = some o := fun a o e n => by rw [upd_ne (fun z => n (by rw [z]; exact inF))]; exact gbd.keep a o e n
        have eSd : updT s'.S g (some ⟨y.z, y.tk.set j2 true⟩) = tmL m s.S k t (mvG m k i j g j2 G) := by rw [tm_move hi mv, ← eS, sfOf_at hy]
        rw [eSd] at Id efd
        obtain ⟨xs0, hx0, _⟩ := mvd.list
        have lv' := gb.lv.move hi mv gp'
        generalize upd Hc (s'.ad (.t g)) (.lst ((y.tk.set j2 true).map V.bl)) = Hd at Id mvd estd elpd keepd hx0 ⊢
        refine ⟨_, rfl, .inl ⟨rfl, _, SqL.of hx0⟩, _, rfl, _, rfl, _, _, rfl, rfl, .inl ⟨?_, ?_⟩, _, rfl, _, rfl, _, _, rfl, rfl, .inr ⟨?_, ?_⟩, _, _, rfl, rfl, _, rfl, _, rfl, _, _, rfl, rfl, .inl ⟨?_, ?_⟩, _, rfl, _, rfl, _, _, rfl, rfl, .inr ⟨?_, ?_⟩, _, _, rfl, rfl, (by show 2 ≤ sizeLine; decide), fun tt htt => ?_⟩
        · show -(2 ^ 64) < ((i : Nat) : Int); omega
        · show ((i : Nat) : Int) < 2 ^ 64; omega
        · show -(2 ^ 64) < ((k : Nat) : Int); omega
        · show ((k : Nat) : Int) < 2 ^ 64; omega
        · show -(2 ^ 64) < ((g : Nat) : Int); omega
        · show ((g : Nat) : Int) < 2 ^ 64; omega
        · show -(2 ^ 64) < ((k : Nat) : Int); omega
        · show ((k : Nat) : Int) < 2 ^ 64; omega
        have ev : HO.tup [V.int (((i : Nat) : Int) * m.length + (0 + (j : Int)) * (k : Nat)), V.int (((g : Nat) : Int) * m.length + (j2 : Nat) * (k : Nat))] = .tup (pairV (i * m.L + j * k, g * m.L + j2 * k)) := by
          unfold pairV
          rw [hL]
          simp
        have smt := sm_n (o := .tup (pairV (i * m.L + j * k, g * m.L + j2 * k))) htt
        obtain ⟨xs, a1, a2, a3⟩ := (mvd.keep smt).snoc (t := tt) (r := pairV (i * m.L + j * k, g * m.L + j2 * k)) upd_same
        rw [← ev] at a1 a3 smt
        have nMst : M ≠ st := fun z => by
          obtain ⟨xs0, hx0, _⟩ := mvd.list
          exact nstM z.symm
        refine ⟨M, xs, _, rfl, rfl, a1, ?_, ⟨lv', ⟨_, (Id.same smt).keep (fun a o e h => ?_), eD, rfl, fun a h => eF a (by rw [efd] at h; exact h)⟩, fun a o e n => ?_, ?_, ?_, ?_⟩, _, _, _, _, _, rfl⟩
        · rw [a2, List.length_map]
          have := gb.lv.len
          have h4 : t < 40 := by have := (List.getElem?_eq_some_iff.mp hi).1; omega
          exact Nat.lt_of_le_of_lt (by omega : _ ≤ 2500) (by decide)
        · have hne : a ≠ M := fun z => nM (by rw [← z]; exact eF a (by rw [efd] at h; exact h))
          rw [upd_ne hne]; exact e
        · have hne : a ≠ M := fun z => by rw [z, hM0] at e; cases e
          rw [upd_ne hne]; exact smt _ _ (keepd a o e n)
        · rw [upd_ne nstM]; exact smt _ _ estd
        · rw [upd_ne nMlp.symm]; exact smt _ _ elpd
        · show TupL _ M ((G.mv ++ [(i * m.L + j * k, g * m.L + j2 * k)]).map pairV)
          rw [List.map_append]
          exact a3
      · rintro σ Hb ⟨gb, v9, v11, v12, v13, v14, rfl⟩
        rw [Int.toNat_natCast, ← gAt_succ hi] at gb
        obtain ⟨s', I', eD, eS, eF⟩ := gb.md
        have hiS : s'.S i = some x := by rw [eS, tm_cur hi]; exact hxS
        have hd' : Hb (s.ad .d) = some (.dK (kvR s'.ad s'.js)) := by rw [← eD]; exact I'.d
        have ev : valV (kvR s'.ad s'.js) (Sum.inl (i : Int)) = some (V.ref (s'.ad (.p i))) := by rw [valV_kvR, if_pos (I'.mem_js.mpr (by rw [hiS]; rfl))]
        have inF : footM s (s.ad .d) := ⟨.d, trivial, rfl⟩
        have Id := I'.drop (i := i)
        rw [eD] at Id
        have hT : ∀ r, Hb (s.ad .d) ≠ some (.tup r) := fun r h => by rw [hd'] at h; cases h
        refine ⟨_, rfl, _, rfl, .inl ⟨_, .inl hd'⟩, _, rfl, _, _, _, hd', rfl, ev, ?_⟩
        refine ⟨⟨gb.lv.next hd60, ⟨_, Id, eD, ?_, fun a h => eF a (footM_drop a h)⟩, fun a o e n => ?_, ?_, ?_, gb.mv.updO (fun z => nM (by rw [z]; exact inF)) hT⟩, _, _, _, _, _, _, rfl⟩
        · rw [tm_next hi, ← eS]
        · rw [upd_ne (fun z => n (by rw [z]; exact inF))]; exact gb.keep a o e n
        · rw [upd_ne (fun z => nst (by rw [z]; exact inF))]; exact gb.est
        · rw [upd_ne (fun z => nlp (by rw [z]; exact inF))]; exact gb.elp
    · rintro σ Ha ⟨gb, v4, v9, v11, v12, v13, v14, rfl⟩
      rw [ellv, gAt_end] at gb
      obtain ⟨s', I', eD, eS, eF⟩ := gb.md
      rw [tm_end] at eS
      refine ⟨_, rfl, kQ M Ha (footM s') ⟨s', I', eD, eS, rfl⟩ gb.mv hM0 (fun h => nM (eF _ h)) ⟨gb.keep, fun a h => .inl (eF a h)⟩⟩
end
end Sb
set_option pp.maxSteps 1500
namespace Sb
open PySem PySem.Spec PyProof.Rows L2
/-! ### one side: a room, the law's table, the lists that were told -/
theorem RoomAt.offp {A : Ad} {H : Hp} {r pa z : Addr} {m : PlM} {F : Addr → Prop} {S : Tb} {cs : List Int} (R : RoomAt A H r pa z m F S cs) : ¬ F pa ∧ ¬ F z := by
  obtain ⟨s, I, _, rfl, _, _, rfl⟩ := R
  exact ⟨fun ⟨l, hl, e⟩ => (I.npl l hl).1 e, fun ⟨l, hl, e⟩ => (I.npl l hl).2 e⟩
theorem MdAt.keep {H H' : Hp} {n : Nat} {d : Addr} {G : Addr → Prop} {S : Tb} (M : MdAt H n d G S) (k : ∀ a o, H a = some o → G a → H' a = some o) : MdAt H' n d G S := by
  obtain ⟨s, I, h1, h2, rfl⟩ := M
  exact ⟨s, I.keep k, h1, h2, rfl⟩
theorem MdAt.own {H : Hp} {n : Nat} {d : Addr} {G : Addr → Prop} {S : Tb} (M : MdAt H n d G S) {a : Addr} (h : G a) : ∃ o, H a = some o := by
  obtain ⟨s, I, h1, h2, rfl⟩ := M
  obtain ⟨l, hl, rfl⟩ := h
  exact ⟨_, I.at_ l hl⟩
theorem MdAt.noTup {H : Hp} {n : Nat} {d : Addr} {G : Addr → Prop} {S : Tb} (M : MdAt H n d G S) {a : Addr} {x : List V} (h : H a = some (.tup x)) : ¬ G a := by
  obtain ⟨s, I, h1, h2, rfl⟩ := M
  exact I.noTup h
inductive Kd where
  | pr (l : List (Nat × Nat))
  | tr (l : List (Nat × Nat × Nat))
  | ns (l : List Nat)
def KdAt (H : Hp) (a : Addr) : Kd → Prop
  | .pr l => TupP H a l
  | .tr l => TupT H a l
  | .ns l => H a = some (.lst (nV l))
def Kd.dt : Kd → PyData
  | .pr l => .list (l.map pairD)
  | .tr l => .list (l.map tripD)
  | .ns l => dInts (castI l)
theorem Kd.shp : ∀ k : Kd, Shp k.dt 2
  | .pr l => sh_pairs l
  | .tr l => sh_trips l
  | .ns l => ⟨(sh_ints _).lay, Nat.le_trans (sh_ints _).dep (by decide)⟩
theorem KdAt.dp {K : PySem.W.Frag} {H : Hp} {a : Addr} : ∀ {k : Kd}, KdAt H a k → Dp K H (.ref a) k.dt
  | .pr _, h => dp_pairs h
  | .tr _, h => dp_trips h
  | .ns _, h => dp_nats h
theorem KdAt.list {H : Hp} {a : Addr} : ∀ {k : Kd}, KdAt H a k → ∃ xs, H a = some (.lst xs)
  | .pr _, h => by obtain ⟨xs, h, _⟩ := TupL.list h; exact ⟨xs, h⟩
  | .tr _, h => by obtain ⟨xs, h, _⟩ := TupL.list h; exact ⟨xs, h⟩
  | .ns _, h => ⟨_, h⟩
theorem TupL.keepT {H H' : Hp} {q : Addr} {rows : List (List V)} (h : TupL H q rows) (k1 : ∀ xs, H q = some (.lst xs) → H' q = some (.lst xs)) (k2 : ∀ t r, H t = some (.tup r) → H' t = some (.tup r)) : TupL H' q rows := by
  obtain ⟨ts, h1, h2⟩ := h
  exact ⟨ts, k1 _ h1, map_keep h2 fun t r _ e => k2 t r e⟩
theorem KdAt.keepT {H H' : Hp} {a : Addr} (k1 : ∀ xs, H a = some (.lst xs) → H' a = some (.lst xs)) (k2 : ∀ t r, H t = some (.tup r) → H' t = some (.tup r)) : ∀ {k : Kd}, KdAt H a k → KdAt H' a k
  | .pr _, h => TupL.keepT h k1 k2
  | .tr _, h => TupL.keepT h k1 k2
  | .ns _, h => k1 _ h
theorem KdAt.same {H H' : Hp} {a : Addr} {k : Kd} (h : KdAt H a k) (sm : Same H H') : KdAt H' a k := h.keepT (fun _ e => sm _ _ e) fun _ _ e => sm _ _ e
theorem KdAt.copy {H : Hp} {a b : Addr} {xs : List V} (hx : H a = some (.lst xs)) (hb : H b = none) : ∀ {k : Kd}, KdAt H a k → KdAt (upd H b (.lst xs)) b k
  | .pr _, h => TupL.copy h hx hb
  | .tr _, h => TupL.copy h hx hb
  | .ns _, h => by
    have e : H a = some (.lst (nV _)) := h
    rw [hx] at e
    injection e with e
    injection e with e
    show upd H b (.lst xs) b = some (.lst (nV _))
    rw [upd_same, e]
abbrev Ke := Addr × Addr × Kd
def keV (e : Ke) : List V := [.ref e.1, .ref e.2.1]
structure SdC (A : Ad) (H : Hp) (r pa z : Addr) (m : PlM) (d kp : Addr) (F G : Addr → Prop) (S1 S2 : Tb) (cs : List Int) (es : List Ke) : Prop where
  R : RoomAt A H r pa z m F S1 cs
  M : MdAt H m.n d G S2
  tp : TupL H kp (es.map keV)
  en : ∀ e ∈ es, KdAt H e.1 e.2.2 ∧ KdAt H e.2.1 e.2.2
  fg : ∀ a, F a → ¬ G a
  kF : ¬ F kp
  kG : ¬ G kp
  eF : ∀ e ∈ es, (¬ F e.1 ∧ ¬ G e.1 ∧ e.1 ≠ kp) ∧ (¬ F e.2.1 ∧ ¬ G e.2.1 ∧ e.2.1 ≠ kp)
  pl : (¬ G pa ∧ ¬ G z) ∧ pa ≠ kp ∧ z ≠ kp
def ftC (F G : Addr → Prop) (kp : Addr) (es : List Ke) : Addr → Prop := fun a => F a ∨ G a ∨ a = kp ∨ ∃ e ∈ es, a = e.1 ∨ a = e.2.1
section
variable {A : Ad} {H H' : Hp} {r pa z : Addr} {m : PlM} {d kp : Addr} {F G F' G' : Addr → Prop} {S1 S2 S1' S2' : Tb} {cs cs' : List Int} {es : List Ke}
theorem SdC.kpl (W : SdC A H r pa z m d kp F G S1 S2 cs es) : ∃ xs, H kp = some (.lst xs) ∧ xs.length = es.length := by
  obtain ⟨xs, h1, h2⟩ := W.tp.list
  exact ⟨xs, h1, by rw [h2, List.length_map]⟩
theorem SdC.same (W : SdC A H r pa z m d kp F G S1 S2 cs es) (sm : Same H H') : SdC A H' r pa z m d kp F G S1 S2 cs es :=
  ⟨W.R.same sm, W.M.same sm, W.tp.keep sm, fun e he => ⟨(W.en e he).1.same sm, (W.en e he).2.same sm⟩, W.fg, W.kF, W.kG, W.eF, W.pl⟩
theorem new_not {X X' : Addr → Prop} (k : Stp X H X' H') {a : Addr} (n : ¬ X a) (h : ∃ o, H a = some o) : ¬ X' a := fun q => by
  rcases k.2 a q with q | q
  · exact n q
  · obtain ⟨o, e⟩ := h
    rw [e] at q; cases q
/-- the room took a step -/
theorem SdC.room (W : SdC A H r pa z m d kp F G S1 S2 cs es) (R' : RoomAt A H' r pa z m F' S1' cs') (k : Stp F H F' H') : SdC A H' r pa z m d kp F' G S1' S2 cs' es ∧ Stp (ftC F G kp es) H (ftC F' G kp es) H' := by
  have t2 : ∀ t x, H t = some (HO.tup x) → H' t = some (.tup x) := fun t x e => k.1 _ _ e (W.R.noTup e)
  have le : ∀ {a : Addr} {k : Kd}, KdAt H a k → ∃ o, H a = some o := fun h => by obtain ⟨xs, h⟩ := h.list; exact ⟨_, h⟩
  have kpe : ∃ o, H kp = some o := by obtain ⟨xs, h, _⟩ := W.kpl; exact ⟨_, h⟩
  refine ⟨⟨R', W.M.keep fun a o e g => k.1 _ _ e fun f => W.fg a f g, W.tp.keepT (fun _ e => k.1 _ _ e W.kF) t2, fun e he => ⟨(W.en e he).1.keepT (fun _ h => k.1 _ _ h (W.eF e he).1.1) t2, (W.en e he).2.keepT (fun _ h => k.1 _ _ h (W.eF e he).2.1) t2⟩, fun a f g => new_not k (fun f => W.fg a f g) (W.M.own g) f, new_not k W.kF kpe, W.kG, fun e he => ⟨⟨new_not k (W.eF e he).1.1 (le (W.en e he).1), (W.eF e he).1.2⟩, ⟨new_not k (W.eF e he).2.1 (le (W.en e he).2), (W.eF e he).2.2⟩⟩, W.pl⟩, fun a o e n => k.1 _ _ e fun f => n (.inl f), fun a q => ?_⟩
  rcases q with q | q
  · exact (k.2 a q).elim (fun f => .inl (.inl f)) .inr
  · exact .inl (.inr q)
/-- the law's table took a step -/
theorem SdC.model (W : SdC A H r pa z m d kp F G S1 S2 cs es) (M' : MdAt H' m.n d G' S2') (k : Stp G H G' H') : SdC A H' r pa z m d kp F G' S1 S2' cs es ∧ Stp (ftC F G kp es) H (ftC F G' kp es) H' := by
  have t2 : ∀ t x, H t = some (HO.tup x) → H' t = some (.tup x) := fun t x e => k.1 _ _ e (W.M.noTup e)
  have le : ∀ {a : Addr} {k : Kd}, KdAt H a k → ∃ o, H a = some o := fun h => by obtain ⟨xs, h⟩ := h.list; exact ⟨_, h⟩
  have kpe : ∃ o, H kp = some o := by obtain ⟨xs, h, _⟩ := W.kpl; exact ⟨_, h⟩
  have R' : RoomAt A H' r pa z m F S1 cs := W.R.other fun a o e h => k.1 _ _ e fun g => by
    rcases h with h | h | h
    · exact W.fg a h g
    · rw [h] at g; exact W.pl.1.1 g
    · rw [h] at g; exact W.pl.1.2 g
  obtain ⟨dxp, hpo⟩ := W.R.pl.ob
  have pe : ∃ o, H pa = some o := ⟨_, hpo⟩
  have ze : ∃ o, H z = some o := ⟨_, W.R.pl.sz⟩
  refine ⟨⟨R', M', W.tp.keepT (fun _ e => k.1 _ _ e W.kG) t2, fun e he => ⟨(W.en e he).1.keepT (fun _ h => k.1 _ _ h (W.eF e he).1.2.1) t2, (W.en e he).2.keepT (fun _ h => k.1 _ _ h (W.eF e he).2.2.1) t2⟩, fun a f => new_not k (W.fg a f) (W.R.own f), W.kF, new_not k W.kG kpe, fun e he => ⟨⟨(W.eF e he).1.1, new_not k (W.eF e he).1.2.1 (le (W.en e he).1), (W.eF e he).1.2.2⟩, ⟨(W.eF e he).2.1, new_not k (W.eF e he).2.2.1 (le (W.en e he).2), (W.eF e he).2.2.2⟩⟩, ⟨⟨new_not k W.pl.1.1 pe, new_not k W.pl.1.2 ze⟩, W.pl.2⟩⟩, fun a o e n => k.1 _ _ e fun g => n (.inr (.inl g)), fun a q => ?_⟩
  rcases q with q | q | q
  · exact .inl (.inl q)
  · exact (k.2 a q).elim (fun f => .inl (.inr (.inl f))) .inr
  · exact .inl (.inr (.inr q))
/-- one more list is kept -/
theorem SdC.app {H0 : Hp} {T0 : Addr → Prop} {a b t : Addr} {kd : Kd} {xs : List V} (W : SdC A H r pa z m d kp F G S1 S2 cs es) (hx : H kp = some (.lst xs)) (ha : KdAt H a kd) (hb : KdAt H b kd) (ht : H t = some (.tup [.ref a, .ref b]))
    (na : ¬ F a ∧ ¬ G a ∧ a ≠ kp) (nb : ¬ F b ∧ ¬ G b ∧ b ≠ kp) (na0 : T0 a ∨ H0 a = none) (nb0 : T0 b ∨ H0 b = none) (st : Stp T0 H0 (ftC F G kp es) H) :
    SdC A (upd H kp (.lst (xs ++ [.ref t]))) r pa z m d kp F G S1 S2 cs (es ++ [(a, b, kd)]) ∧ Stp T0 H0 (ftC F G kp (es ++ [(a, b, kd)])) (upd H kp (.lst (xs ++ [.ref t]))) := by
  have k1 : ∀ {q : Addr} {o : HO}, q ≠ kp → H q = some o → upd H kp (.lst (xs ++ [.ref t])) q = some o := fun n e => by rw [upd_ne n]; exact e
  have t2 : ∀ q x, H q = some (HO.tup x) → upd H kp (.lst (xs ++ [.ref t])) q = some (.tup x) := fun q x e => k1 (fun z => by rw [z, hx] at e; cases e) e
  have tp' : TupL (upd H kp (.lst (xs ++ [.ref t]))) kp ((es ++ [(a, b, kd)]).map keV) := by
    obtain ⟨xs', h1, _, h3⟩ := W.tp.snoc (t := t) (r := keV (a, b, kd)) ht
    rw [hx] at h1
    injection h1 with h1
    injection h1 with h1
    subst h1
    rw [List.map_append]
    exact h3
  have kk : ∀ {q : Addr} {k : Kd}, q ≠ kp → KdAt H q k → KdAt (upd H kp (.lst (xs ++ [.ref t]))) q k := fun n h => h.keepT (fun _ e => k1 n e) t2
  refine ⟨⟨W.R.out W.kF ⟨fun q => W.pl.2.1 q.symm, fun q => W.pl.2.2 q.symm⟩, W.M.keep fun q o e g => k1 (fun z => W.kG (by rw [← z]; exact g)) e, tp', fun e he => ?_, W.fg, W.kF, W.kG, fun e he => ?_, W.pl⟩, fun q o e n => ?_, fun q h => ?_⟩
  · rcases List.mem_append.mp he with he | he
    · exact ⟨kk (W.eF e he).1.2.2 (W.en e he).1, kk (W.eF e he).2.2.2 (W.en e he).2⟩
    · rw [List.mem_singleton] at he
      subst he
      exact ⟨kk na.2.2 ha, kk nb.2.2 hb⟩
  · rcases List.mem_append.mp he with he | he
    · exact W.eF e he
    · rw [List.mem_singleton] at he
      subst he
      exact ⟨na, nb⟩
  · have e1 := st.1 q o e n
    refine k1 (fun z => ?_) e1
    rcases st.2 kp (.inr (.inr (.inl rfl))) with h | h
    · exact n (by rw [z]; exact h)
    · rw [z, h] at e; cases e
  · rcases h with h | h | h | ⟨e, he, h⟩
    · exact st.2 q (.inl h)
    · exact st.2 q (.inr (.inl h))
    · exact st.2 q (.inr (.inr (.inl h)))
    · rcases List.mem_append.mp he with he | he
      · exact st.2 q (.inr (.inr (.inr ⟨e, he, h⟩)))
      · rw [List.mem_singleton] at he
        subst he
        rcases h with h | h
        · rw [h]; exact na0
        · rw [h]; exact nb0
/-- the kept lists are cleared -/
theorem SdC.clr {H0 : Hp} {T0 : Addr → Prop} (W : SdC A H r pa z m d kp F G S1 S2 cs es) (st : Stp T0 H0 (ftC F G kp es) H) :
    SdC A (upd H kp (.lst [])) r pa z m d kp F G S1 S2 cs [] ∧ Stp T0 H0 (ftC F G kp []) (upd H kp (.lst [])) := by
  have k1 : ∀ {q : Addr} {o : HO}, q ≠ kp → H q = some o → upd H kp (.lst []) q = some o := fun n e => by rw [upd_ne n]; exact e
  refine ⟨⟨W.R.out W.kF ⟨fun q => W.pl.2.1 q.symm, fun q => W.pl.2.2 q.symm⟩, W.M.keep fun q o e g => k1 (fun z => W.kG (by rw [← z]; exact g)) e, TupL.nil upd_same, (fun e he => by cases he), W.fg, W.kF, W.kG, (fun e he => by cases he), W.pl⟩, fun q o e n => ?_, fun q h => ?_⟩
  · have e1 := st.1 q o e n
    refine k1 (fun z => ?_) e1
    rcases st.2 kp (.inr (.inr (.inl rfl))) with h | h
    · exact n (by rw [z]; exact h)
    · rw [z, h] at e; cases e
  · rcases h with h | h | h | ⟨e, he, h⟩
    · exact st.2 q (.inl h)
    · exact st.2 q (.inr (.inl h))
    · exact st.2 q (.inr (.inr (.inl h)))
    · cases he
end
/-- one side, room and table alike -/
def Sd (A : Ad) (H : Hp) (r pa z : Addr) (m : PlM) (d kp : Addr) (N : Nat) (T : Addr → Prop) : Prop := ∃ F G S cs es, SdC A H r pa z m d kp F G S S cs es ∧ es.length ≤ N ∧ T = ftC F G kp es
theorem Sd.own {A : Ad} {H : Hp} {r pa z : Addr} {m : PlM} {d kp : Addr} {N : Nat} {T : Addr → Prop} (W : Sd A H r pa z m d kp N T) {a : Addr} (h : T a) : ∃ o, H a = some o ∧ ∀ x, o ≠ .tup x := by
  obtain ⟨F, G, S, cs, es, W, _, rfl⟩ := W
  rcases h with h | h | h | ⟨e, he, h⟩
  · obtain ⟨o, e⟩ := W.R.own h
    exact ⟨o, e, fun x q => W.R.noTup (by rw [e, q]) h⟩
  · obtain ⟨o, e⟩ := W.M.own h
    exact ⟨o, e, fun x q => W.M.noTup (by rw [e, q]) h⟩
  · obtain ⟨xs, e, _⟩ := W.kpl
    exact ⟨_, by rw [h]; exact e, fun x q => by cases q⟩
  · rcases h with h | h
    · obtain ⟨xs, e⟩ := (W.en e he).1.list
      exact ⟨_, by rw [h]; exact e, fun x q => by cases q⟩
    · obtain ⟨xs, e⟩ := (W.en e he).2.list
      exact ⟨_, by rw [h]; exact e, fun x q => by cases q⟩
/-- one side stays, where another changes -/
theorem Sd.other {A : Ad} {H H' : Hp} {r pa z : Addr} {m : PlM} {d kp : Addr} {N : Nat} {T : Addr → Prop} (W : Sd A H r pa z m d kp N T) (k : ∀ a o, H a = some o → (T a ∨ a = pa ∨ a = z ∨ ∃ x, o = .tup x) → H' a = some o) : Sd A H' r pa z m d kp N T := by
  obtain ⟨F, G, S, cs, es, W, hN, rfl⟩ := W
  have t2 : ∀ t x, H t = some (HO.tup x) → H' t = some (.tup x) := fun t x e => k _ _ e (.inr (.inr (.inr ⟨x, rfl⟩)))
  refine ⟨F, G, S, cs, es, ⟨W.R.other fun a o e h => k _ _ e (h.elim (fun f => .inl (.inl f)) fun h => .inr (h.elim .inl fun h => .inr (.inl h))), W.M.keep fun a o e g => k _ _ e (.inl (.inr (.inl g))), W.tp.keepT (fun _ e => k _ _ e (.inl (.inr (.inr (.inl rfl))))) t2, fun e he => ⟨(W.en e he).1.keepT (fun _ h => k _ _ h (.inl (.inr (.inr (.inr ⟨e, he, .inl rfl⟩))))) t2, (W.en e he).2.keepT (fun _ h => k _ _ h (.inl (.inr (.inr (.inr ⟨e, he, .inr rfl⟩))))) t2⟩, W.fg, W.kF, W.kG, W.eF, W.pl⟩, hN, rfl⟩
theorem Sd.le {A : Ad} {H : Hp} {r pa z : Addr} {m : PlM} {d kp : Addr} {N N' : Nat} {T : Addr → Prop} (W : Sd A H r pa z m d kp N T) (h : N ≤ N') : Sd A H r pa z m d kp N' T := by
  obtain ⟨F, G, S, cs, es, W, hN, rfl⟩ := W
  exact ⟨F, G, S, cs, es, W, Nat.le_trans hN h, rfl⟩
end Sb
set_option pp.maxSteps 1500
namespace Sb
open PySem PySem.Spec PyProof.Rows L2
/-- a wish: what is answered, what stands then -/
def wishR (m : PlM) (S : Tb) (w : Int) : Int × Tb := match sizeFor m.sizes w with
  | none => (-2, S)
  | some k => match wishT m S k.toNat with
    | none => (-1, S)
    | some (pg, j, S') => (((pg * m.L + j * k.toNat : Nat) : Int), S')
theorem wishR_no {m : PlM} {S : Tb} {w : Int} (h : sizeFor m.sizes w = none) : wishR m S w = (-2, S) := by unfold wishR; rw [h]
theorem wishR_full {m : PlM} {S : Tb} {w : Int} {k : Nat} (h : sizeFor m.sizes w = some (k : Int)) (h2 : wishT m S k = none) : wishR m S w = (-1, S) := by
  unfold wishR
  rw [h]
  show (match wishT m S ((k : Nat) : Int).toNat with | none => _ | some (pg, j, S') => _) = _
  rw [Int.toNat_natCast, h2]
theorem wishR_at {m : PlM} {S S' : Tb} {w : Int} {k pg j : Nat} (h : sizeFor m.sizes w = some (k : Int)) (h2 : wishT m S k = some (pg, j, S')) : wishR m S w = (((pg * m.L + j * k : Nat) : Int), S') := by
  unfold wishR
  rw [h]
  show (match wishT m S ((k : Nat) : Int).toNat with | none => _ | some (pg, j, S') => _) = _
  rw [Int.toNat_natCast, h2]
theorem got_of {K : PySem.W.Frag} {A : Ad} {H : Hp} {r pa z : Addr} {m : PlM} {F : Addr → Prop} {S : Tb} {cs : List Int} {w : Int} {vs : List V} {Q : VK} {E : XK} (hv : vs = [.ref r, .int w]) (R : RoomAt A H r pa z m F S cs) (w1 : 1 ≤ w)
    (k : ∀ H' F' cs', RoomAt A H' r pa z m F' (wishR m S w).2 cs' → Stp F H F' H' → Q (.int (wishR m S w).1) H') : sp_law_got K A vs H Q E := by
  subst hv
  refine ⟨r, pa, z, m, F, S, cs, w, rfl, R, w1, fun hn => ?_, fun kk hs => ⟨fun hf H' sm => ?_, fun pg j S' H' F' cs' hw R' st => ?_⟩⟩
  · have := k H F cs; rw [wishR_no hn] at this; exact this R Stp.refl
  · have := k H' F cs; rw [wishR_full hs hf] at this; exact this (R.same sm) (Stp.same sm)
  · have := k H' F' cs'; rw [wishR_at hs hw] at this; exact this R' st
theorem wished_of {K : PySem.W.Frag} {A : Ad} {H : Hp} {d q0 zs : Addr} {m : PlM} {G : Addr → Prop} {S : Tb} {w : Int} {vs : List V} {Q : VK} {E : XK} (hv : vs = [.ref d, .ref q0, .int w]) (M : MdAt H m.n d G S) (mok : m.Ok) (ok : SOk m S) (hq0 : H q0 = some (.tup [.int m.pages, .int m.length, .ref zs])) (hzs : H zs = some (.lst (m.sizes.map V.int)))
    (k : ∀ H' G', MdAt H' m.n d G' (wishR m S w).2 → Stp G H G' H' → Q (.int (wishR m S w).1) H') : sp_law_wished K A vs H Q E := by
  subst hv
  refine ⟨d, q0, zs, m, G, S, w, rfl, M, mok, ok, hq0, hzs, fun hn => ?_, fun kk hs => ⟨fun hf H' sm => ?_, fun pg j S' H' G' hw M' st => ?_⟩⟩
  · have := k H G; rw [wishR_no hn] at this; exact this M Stp.refl
  · have := k H' G; rw [wishR_full hs hf] at this; exact this (M.same sm) (Stp.same sm)
  · have := k H' G'; rw [wishR_at hs hw] at this; exact this M' st
theorem ftC_same {F G : Addr → Prop} {kp : Addr} {es : List Ke} {H H' : Hp} (sm : Same H H') : Stp (ftC F G kp es) H (ftC F G kp es) H' := Stp.same sm
def sp_law_deed (K : PySem.W.Frag) (A : Ad) : Sp := fun vs H Q _ => ∃ (r pa z d kp q0 zs : Addr) (m : PlM) (N : Nat) (T : Addr → Prop) (c : Int), vs = [.ref r, .ref d, .ref q0, .ref kp, .int c] ∧ Sd A H r pa z m d kp N T ∧ N ≤ 1000 ∧ H q0 = some (.tup [.int m.pages, .int m.length, .ref zs]) ∧ H zs = some (.lst (m.sizes.map V.int)) ∧ ¬ T zs ∧
  ∀ H' T', Sd A H' r pa z m d kp (N + 1) T' → Stp T H T' H' → Q (.bl true) H'
section
variable {P : Program} {w : World} {K : PySem.W.Frag} {mg : Str → Option Value} {base : Heap} {A : Ad}
theorem ok_law_deed (T : Tx K mg A) : Df P w K mg base 8 "_law_deed" ["_law_room", "_law_model", "_law_drawn", "_law_kept", "_law_cell"] (sp_law_deed K A) := by
  refine Dd.ok T.d_law_deed sc_law_deed bi_law_deed (fun vs H Q E h => ?_) (fun f cdv Ar outer s H vs Q E hr h => ?_)
  · obtain ⟨r, pa, z, d, kp, q0, zs, m, N, T', c, rfl, _⟩ := h; rfl
  · obtain ⟨r, pa, z, d, kp, q0, zs, m, N, T0, c, rfl, W0, hN, hq0, hzs, nzs, kQ⟩ := h
    refine ⟨_, (pss_cons (ps_set (i := 5) sc_law_deed.nd rfl (Or.inl rfl) (pe_op op_fdiv (pv 4) pe_int))
    (pss_cons (ps_if (pt_cmpR op_lt (pe_op op_mod (pv 4) pe_int) pe_int (nomark _)) (pss_cons (ps_set (i := 6) sc_law_deed.nd rfl (Or.inl rfl) pe_int)
    (Evl.pss_cut (ps_if (pt_cmpR op_eq (pe_op op_mod (pv 4) pe_int) pe_int (nomark _)) (pss_one (ps_set (i := 6) sc_law_deed.nd rfl (Or.inl rfl) (pe_op op_add pe_int (pe_op op_mod (pe_op op_fdiv (pv 5) pe_int) pe_int))))
    pss_nil)
    (pss_cons (ps_for (passes_of rfl) rfl (pi_range1 (by rfl) T.z_range (pa_cons (pv 6) pa_nil)) (pg_name (i := 7) sc_law_deed.nd rfl (Or.inl rfl))
    (pss_cons (ps_set (i := 8) sc_law_deed.nd rfl (Or.inl rfl) (pe_df (ok_law_got T) hr (by decide) (by rfl) (pa_cons (pv 0) (pa_cons (pe_op op_add pe_int (pe_op op_mod (pv 5) (pe_ix ix_tup (pv 2) pe_int (fun _ _ => rfl)))) pa_nil))))
    (pss_one (ps_if (PW.pt (pw_or (pt_not (pt_val (pe_df (ok_law_whole T) hr (by decide) (by rfl) (pa_cons (pv 8) pa_nil)))) (pw_or1 (pt_cmpR op_ne (pv 8) (pe_df (ok_law_wished T) hr (by decide) (by rfl) (pa_cons (pv 1) (pa_cons (pv 2) (pa_cons (pe_op op_add pe_int (pe_op op_mod (pv 5) (pe_ix ix_tup (pv 2) pe_int (fun _ _ => rfl)))) pa_nil)))) (nomark _))))) (pss_one (ps_ret pe_bl))
    pss_nil))))
    (pss_one (ps_ret pe_bl)))))
    pss_nil)
    (pss_cons (ps_if (pt_cmpR op_eq (pe_op op_mod (pv 4) pe_int) pe_int (nomark _)) (pss_one (ps_ret (pe_df (ok_law_told T) hr (by decide) (by rfl) (pa_cons (pv 0) (pa_cons (pv 1) (pa_cons (pv 2) (pa_cons (pe_op op_add pe_int (pe_op op_mod (pv 5) (pe_ix ix_tup (pv 2) pe_int (fun _ _ => rfl)))) pa_nil)))))))
    pss_nil)
    (pss_cons (ps_if (pt_cmpR op_ne (pe_op op_mod (pv 4) pe_int) pe_int (nomark _)) (pss_cons (ps_set (i := 9) sc_law_deed.nd rfl (Or.inl rfl) (pe_df (ok_law_places T) hr (by decide) (by rfl) (pa_cons (pv 1) (pa_cons (pe_ix ix_tup (pv 2) pe_int (fun _ _ => rfl)) pa_nil))))
    (pss_cons (ps_if (pt_cmpR (op_eqD hr.units) (pv 9) (pe_lst pa_nil) (nomark _)) (pss_one (ps_ret pe_bl))
    pss_nil)
    (pss_cons (ps_asg (pe_ix ix_list (pv 9) (pe_op op_mod (pv 5) (pe_callB call_len_seq (by rfl) T.z_len (by decide +kernel) (pa_cons (pv 9) pa_nil))) (fun _ _ => rfl)) (pg_tup (by rfl) (pgs_cons (pg_name (i := 10) sc_law_deed.nd rfl (Or.inl rfl)) (pgs_cons (pg_name (i := 11) sc_law_deed.nd rfl (Or.inl rfl)) pgs_nil))))
    (pss_cons (ps_if (pt_cmpR op_eq (pe_op op_mod (pv 4) pe_int) pe_int (nomark _)) (pss_cons (ps_expr (pe_mf (ok_Room_write T) T.c_Room hr (by decide) (pv 0) (pa_cons (pv 10) (pa_cons (pe_op op_mod (pv 5) (pv 11)) (pa_cons (pv 5) pa_nil)))))
    (pss_one (ps_ret (pe_cmpR op_eq (pe_mf (ok_Room_read T) T.c_Room hr (by decide) (pv 0) (pa_cons (pv 10) (pa_cons (pe_op op_mod (pv 5) (pv 11)) pa_nil))) (pv 5) (nomark _)))))
    pss_nil)
    (pss_cons (ps_expr (pe_df (ok_law_given T) hr (by decide) (by rfl) (pa_cons (pv 1) (pa_cons (pe_ix ix_tup (pv 2) pe_int (fun _ _ => rfl)) (pa_cons (pv 10) pa_nil)))))
    (pss_one (ps_ret (pe_cmpR op_isN (pe_mf (ok_Room_give_back T) T.c_Room hr (by decide) (pv 0) (pa_cons (pv 10) pa_nil)) pe_non (nomark _)))))))))
    pss_nil)
    (pss_cons (ps_if (pt_cmpR op_gt (pe_op op_mod (pv 5) pe_int) pe_int (nomark _)) (pss_cons (ps_set (i := 11) sc_law_deed.nd rfl (Or.inl rfl) (pe_ix ix_list (pe_ix ix_tup (pv 2) pe_int (fun _ _ => rfl)) (pe_op op_mod (pe_op op_fdiv (pv 5) pe_int) (pe_callB call_len_seq (by rfl) T.z_len (by decide +kernel) (pa_cons (pe_ix ix_tup (pv 2) pe_int (fun _ _ => rfl)) pa_nil))) (fun _ _ => rfl)))
    (pss_cons (ps_set (i := 8) sc_law_deed.nd rfl (Or.inl rfl) (pe_mf (ok_Room_gather T) T.c_Room hr (by decide) (pv 0) (pa_cons (pv 11) pa_nil)))
    (pss_cons (ps_expr (pe_bm PySem.F.plainAttrs_list PySem.F.slot_list_append PySem.F.type_list_append mt_append (pv 3) (pa_cons (pe_tup (pa_cons (pv 8) (pa_cons (pe_callTy call_list_of (by rfl) T.z_list (by decide +kernel) (pa_cons (pv 8) pa_nil)) pa_nil))) pa_nil)))
    (pss_one (ps_ret (pe_cmpR (op_eqD hr.units) (pv 8) (pe_df (ok_law_gathered_by T) hr (by decide) (by rfl) (pa_cons (pv 1) (pa_cons (pe_ix ix_tup (pv 2) pe_int (fun _ _ => rfl)) (pa_cons (pv 11) pa_nil)))) (nomark _)))))))
    pss_nil)
    (pss_cons (ps_setLc (i := 12) (own := [("_law_page", 13)]) (g := gName 13) (tt := (tTest (tOp (rIn K true) (tC (.bl true)) (tOp (rIxL K) (tDGet (tVar 1) (tVar 13)) (tC (.int 1)))))) (te := (tVar 13)) rfl sc_law_deed.nd rfl rfl (sw_true rfl rfl rfl (by decide +kernel)) (pi_list (pe_callB (call_sortedDI rfl) (by rfl) T.z_sorted (by decide +kernel) (pa_cons (pv 1) pa_nil))) (blkOk_by (own := [("_law_page", 13)]) (N := ["_law_room", "_law_model", "_law_drawn", "_law_kept", "_law_cell", "_law_more", "_law_many", "_law_turn", "_law_found", "_law_places_here", "_law_place", "_law_size", "_law_empty", "_law_page"]) (sc := defScope s_law_deed) (by decide +kernel)) (fun _ _ _ _ _ => pg_name (i := 13) sc_law_deed.nd rfl (Or.inl rfl)) (fun _ _ _ _ _ => pts_one (pt_cmpR op_notIn_seq pe_bl (pe_ix ix_list (pe_dget (hu_of hr) (pv 1) (pv 13) (fun _ _ => rfl)) pe_int (fun _ _ => rfl)) rfl)) (fun _ _ _ _ _ => (pv 13)))
    (pss_cons (ps_for (passes_of rfl) rfl (pi_list (pv 12)) (pg_name (i := 13) sc_law_deed.nd rfl (Or.inl rfl))
    (pss_one (ps_expr (pe_dpop1 (pv 1) (pv 13) ⟨by rfl, by rfl, by rfl, by rfl⟩))))
    (pss_cons (ps_set (i := 8) sc_law_deed.nd rfl (Or.inl rfl) (pe_mf0 (ok_Room_trim T) T.c_Room hr (by decide) (pv 0)))
    (pss_one (ps_ret (pe_and (pe_df (ok_law_whole T) hr (by decide) (by rfl) (pa_cons (pv 8) pa_nil)) (pe_one (pe_cmpR op_eq (pv 8) (pe_callB call_len_seq (by rfl) T.z_len (by decide +kernel) (pa_cons (pv 12) pa_nil)) (nomark _)))))))))))))), ?_⟩
    have nq0 : ¬ T0 q0 := fun h => by
      obtain ⟨o, e, n⟩ := W0.own h
      rw [hq0] at e
      exact n _ (Option.some.inj e).symm
    have mok : m.Ok := by obtain ⟨F, G, S, cs, es, W, _⟩ := W0; exact W.R.pl.ok
    have hL := mok.eL
    have hL1 := mok.l1
    have hl60 := mok.L60
    have hn40 := plen m mok
    have w1 : 1 ≤ 1 + (c / 9) % m.length := by have := Int.emod_nonneg (c / 9) (show m.length ≠ 0 by omega); omega
    refine ⟨_, rfl, _, _, rfl, rfl, ⟨by decide, by decide⟩, ?_⟩
    refine ⟨_, rfl, _, _, rfl, rfl, (by show (0 : Int) < 9; decide), _, _, rfl, rfl, _, rfl, iteD (fun hc => ?_) (fun hc => ?_)⟩
    · -- wishes
      refine ⟨fun σ H' => H' = H ∧ ∃ many : Nat, many ≤ 6 ∧ σ = [some (.ref r), some (.ref d), some (.ref q0), some (.ref kp), some (.int c), some (.int (c / 9)), some (.int (many : Nat)), none, none, none, none, none, none, none], ?_, ?_⟩
      · refine ⟨_, rfl, _, _, rfl, rfl, (by show (0 : Int) < 9; decide), rfl, _, rfl, iteD (fun _ => ?_) (fun _ => ?_)⟩
        · have h1 := Int.emod_nonneg ((c / 9) / 2) (show (6 : Int) ≠ 0 by decide)
          have h2 := Int.emod_lt_of_pos ((c / 9) / 2) (show (0 : Int) < 6 by decide)
          refine ⟨_, rfl, _, _, rfl, rfl, ⟨by decide, by decide⟩, _, _, rfl, rfl, (by show (0 : Int) < 6; decide), _, _, rfl, rfl, rfl, (1 + (c / 9) / 2 % 6).toNat, by omega, ?_⟩
          have e : 1 + (c / 9) / 2 % 6 = (((1 + (c / 9) / 2 % 6).toNat : Nat) : Int) := by omega
          rw [← e]; rfl
        · exact ⟨rfl, 1, by omega, rfl⟩
      · rintro σ H' ⟨eH, many, hm6, rfl⟩
        subst eH
        refine ⟨_, rfl, _, rfl, (by omega), (by omega), for_range (lo := 0) (n := _) (fun i σ Ha => ∃ Ta, Sd A Ha r pa z m d kp N Ta ∧ Stp T0 H' Ta Ha ∧ ∃ v7 v8, σ = [some (.ref r), some (.ref d), some (.ref q0), some (.ref kp), some (.int c), some (.int (c / 9)), some (.int (many : Nat)), v7, v8, none, none, none, none, none]) ⟨T0, W0, Stp.refl, _, _, rfl⟩ ?_ ?_⟩
        · rintro i σ Ha hi ⟨Ta, ⟨F, G, S, cs, es, W, hN2, rfl⟩, sta, v7, v8, rfl⟩
          have hq0a := sta.1 _ _ hq0 nq0
          have hzsa := sta.1 _ _ hzs nzs
          refine ⟨_, rfl, _, rfl, _, rfl, q0, _, _, .int m.length, rfl, rfl, .inl (.inl hq0a), at_of (j := 1) (by decide) rfl, _, _, rfl, rfl, (by show 0 < m.length; omega), _, _, rfl, rfl, ?_⟩
          dsimp only [tNil]
          refine got_of (w := 1 + (c / 9) % m.length) rfl W.R w1 fun Hb Fb csb Rb stb => ?_
          obtain ⟨Wb, sb⟩ := W.room Rb stb
          have stb' := sta.trans sb
          have hq0b := stb'.1 _ _ hq0 nq0
          have hzsb := stb'.1 _ _ hzs nzs
          refine ⟨_, rfl, .int (wishR m S (1 + (c / 9) % m.length)).1, "int", rfl, tInt, (by decide), _, rfl, ?_⟩
          refine iteF ?_
          refine ⟨_, rfl, _, rfl, _, rfl, _, rfl, _, rfl, q0, _, _, .int m.length, rfl, rfl, .inl (.inl hq0b), at_of (j := 1) (by decide) rfl, _, _, rfl, rfl, (by show 0 < m.length; omega), _, _, rfl, rfl, ?_⟩
          dsimp only [tNil]
          refine wished_of (w := 1 + (c / 9) % m.length) rfl Wb.M mok W.R.ok hq0b hzsb fun Hc Gc Mc stc => ?_
          obtain ⟨Wc, sc⟩ := Wb.model Mc stc
          refine ⟨rfl, _, rfl, iteND (fun h => absurd rfl h) (fun _ => ?_)⟩
          exact ⟨_, ⟨_, _, _, _, _, Wc, hN2, rfl⟩, stb'.trans sc, _, _, rfl⟩
        · rintro σ Ha ⟨Ta, Wa, sta, v7, v8, rfl⟩
          exact kQ Ha Ta (Wa.le (Nat.le_succ _)) sta
    refine ⟨_, rfl, _, _, rfl, rfl, (by show (0 : Int) < 9; decide), rfl, _, rfl, iteD (fun hc6 => ?_) (fun hc6 => ?_)⟩
    · obtain ⟨F, G, S, cs, es, W, hN2, rfl⟩ := W0
      refine ⟨_, rfl, _, rfl, _, rfl, _, rfl, _, rfl, q0, _, _, .int m.length, rfl, rfl, .inl (.inl hq0), at_of (j := 1) (by decide) rfl, _, _, rfl, rfl, (by show 0 < m.length; omega), _, _, rfl, rfl, r, pa, z, d, q0, zs, m, F, G, S, cs, 1 + (c / 9) % m.length, rfl, W.R, W.M, w1, hq0, hzs, fun H' sm => ?_⟩
      exact kQ H' _ ⟨F, G, S, cs, es, W.same sm, Nat.le_trans hN2 (Nat.le_succ _), rfl⟩ (Stp.same sm)
    refine ⟨_, rfl, _, _, rfl, rfl, (by show (0 : Int) < 9; decide), rfl, _, rfl, iteND (fun hc7 => ?_) (fun hc7 => ?_)⟩
    · obtain ⟨F, G, S, cs, es, W, hN2, rfl⟩ := W0
      -- the things that are out
      refine ⟨_, rfl, _, rfl, q0, _, _, .int m.length, rfl, rfl, .inl (.inl hq0), at_of (j := 1) (by decide) rfl, d, m, G, S, rfl, W.M, mok, W.R.ok, fun th H1 nth tth sm1 => ?_⟩
      have W1 := W.same sm1
      refine ⟨_, rfl, (by decide), fun e he => ?_⟩
      have sme := sm_n (H := H1) (o := .lst []) he
      refine ⟨_, _, dp_pairs (tth.keep sme), dp_ints (l := []) (SqL.of upd_same), (sh_pairs _).shaped (by decide), (sh_ints _).shaped (by decide), _, rfl, ?_⟩
      have W2 := W1.same sme
      have sm2 : Same H (upd H1 e (.lst [])) := fun b o q => sme _ _ (sm1 _ _ q)
      have tth2 := tth.keep sme
      generalize upd H1 e (.lst []) = H2 at W2 sm2 tth2 ⊢
      by_cases hth : thingsOf m S = []
      · have : PyData.eqv (.list ((thingsOf m S).map pairD)) (dInts []) = true := by rw [hth]; rfl
        rw [this]
        refine iteT ?_
        exact kQ H2 _ ⟨F, G, S, cs, es, W2, Nat.le_trans hN2 (Nat.le_succ _), rfl⟩ (Stp.same sm2)
      have : PyData.eqv (.list ((thingsOf m S).map pairD)) (dInts []) = false := by
        obtain ⟨a, l, hal⟩ := List.exists_cons_of_ne_nil hth
        rw [hal]; rfl
      rw [this]
      refine iteF ?_
      obtain ⟨xs, hx, hxl⟩ := tth2.list
      rw [List.length_map] at hxl
      have hpos : 0 < (thingsOf m S).length := List.length_pos_iff.mpr hth
      have h2400 := things_len mok S
      have hn0 := Int.emod_nonneg (c / 9) (show ((xs.length : Nat) : Int) ≠ 0 by omega)
      have hn1 := Int.emod_lt_of_pos (c / 9) (show 0 < ((xs.length : Nat) : Int) by omega)
      obtain ⟨n, hn⟩ : ∃ n : Nat, c / 9 % ((xs.length : Nat) : Int) = (n : Int) := ⟨(c / 9 % ((xs.length : Nat) : Int)).toNat, by omega⟩
      have hnl : n < xs.length := by omega
      obtain ⟨t, rw_, et, er, htt⟩ := tth2.at hx (List.getElem?_eq_getElem hnl)
      rw [List.getElem?_map] at er
      obtain ⟨pk, hpk⟩ : ∃ pk, (thingsOf m S)[n]? = some pk := ⟨_, List.getElem?_eq_getElem (by omega)⟩
      rw [hpk] at er
      obtain rfl : pairV pk = rw_ := Option.some.inj er
      have hxn : xs[n]? = some (.ref t) := by rw [← et]; exact List.getElem?_eq_getElem hnl
      obtain ⟨p, k⟩ := pk
      have hmemT := List.mem_of_getElem? hpk
      obtain ⟨i, j, hloc, hhas, hp⟩ := locate_things mok W.R.ok hmemT
      have hq02 := sm2 _ _ hq0
      have hzk : (sfOf S i).z = k := by obtain ⟨x, hx, _, hz⟩ := hhas; rw [sfOf_at hx]; exact hz
      have hk1 : 1 ≤ k := by
        obtain ⟨x, hx, _, hz⟩ := hhas
        have := (W.R.ok i x hx).2.1
        have := mok.zr this
        omega
      refine ⟨_, rfl, _, rfl, _, rfl, th, _, rfl, .inl (SqL.of hx), _, _, rfl, rfl, (by show 0 < ((xs.length : Nat) : Int); omega), _, _, _, .ref t, rfl, rfl, SqL.of hx, at_of (j := n) hn hxn, t, _, rfl, .inl (.inl htt), rfl, _, _, rfl, _, _, rfl, rfl, ?_⟩
      obtain ⟨dx, dd, bb, cc, hob⟩ := W2.R.ob
      refine ⟨_, rfl, _, _, rfl, rfl, (by show (0 : Int) < 9; decide), rfl, _, rfl, iteD (fun hc8 => ?_) (fun hc8 => ?_)⟩
      · -- write, read
        have t0 := Int.emod_nonneg (c / 9) (show ((k : Nat) : Int) ≠ 0 by omega)
        have t1 := Int.emod_lt_of_pos (c / 9) (show 0 < ((k : Nat) : Int) by omega)
        refine ⟨_, rfl, r, dx, _, rfl, hob, rmF_no (by decide) _ _ _ _, _, rfl, _, rfl, _, rfl, _, _, rfl, rfl, (by show 0 < ((k : Nat) : Int); omega), _, rfl, r, pa, z, m, F, S, cs, ((p : Nat) : Int), c / 9 % ((k : Nat) : Int), c / 9, rfl, W2.R, (fun h => by rw [hloc] at h; cases h), fun i' j' hl' => ?_⟩
        have hij : i = i' ∧ j = j' := by rw [hloc] at hl'; injection hl' with hl'; exact ⟨congrArg Prod.fst hl', congrArg Prod.snd hl'⟩
        obtain ⟨rfl, rfl⟩ := hij
        rw [hzk]
        refine ⟨fun hno => absurd ⟨t0, t1⟩ hno, fun _ _ H3 R3 st3 => ?_⟩
        obtain ⟨W3, s3⟩ := W2.room R3 st3
        obtain ⟨dx3, dd3, bb3, cc3, hob3⟩ := R3.ob
        refine ⟨_, rfl, r, dx3, _, rfl, hob3, rmF_no (by decide) _ _ _ _, _, rfl, _, rfl, _, rfl, _, _, rfl, rfl, (by show 0 < ((k : Nat) : Int); omega), r, pa, z, m, F, S, _, ((p : Nat) : Int), c / 9 % ((k : Nat) : Int), rfl, R3, (fun h => by rw [hloc] at h; cases h), fun i' j' hl' => ?_⟩
        have hij : i = i' ∧ j = j' := by rw [hloc] at hl'; injection hl' with hl'; exact ⟨congrArg Prod.fst hl', congrArg Prod.snd hl'⟩
        obtain ⟨rfl, rfl⟩ := hij
        rw [hzk]
        refine ⟨fun hno => absurd ⟨t0, t1⟩ hno, fun _ _ H4 sm4 => ?_⟩
        have hin := cell_in W.R.ok mok.L1 W.R.cl hloc t0 (by rw [hzk]; exact t1)
        have eg : (cs.set (((p : Nat) : Int) + c / 9 % ((k : Nat) : Int)).toNat (c / 9)).getD (((p : Nat) : Int) + c / 9 % ((k : Nat) : Int)).toNat 0 = c / 9 := by
          rw [getD_set _ _ _ _ hin.2, if_pos rfl]
        rw [eg]
        refine ⟨_, rfl, rfl, ?_⟩
        have := kQ H4 _ ⟨F, G, S, _, es, W3.same sm4, Nat.le_trans hN2 (Nat.le_succ _), rfl⟩ ((Stp.same sm2).trans (s3.trans (Stp.same sm4)))
        have e1 : decide (V.int (c / 9) = V.int (c / 9)) = true := decide_eq_true rfl
        rw [← e1] at this
        exact this
      · -- given back
        refine ⟨_, rfl, _, rfl, q0, _, _, .int m.length, rfl, rfl, .inl (.inl hq02), at_of (j := 1) (by decide) rfl, _, rfl, d, m, G, S, ((p : Nat) : Int), i, j, rfl, W2.M, mok, W.R.ok, hloc, fun H3 G3 M3 st3 => ?_⟩
        obtain ⟨W3, s3⟩ := W2.model M3 st3
        obtain ⟨dx3, dd3, bb3, cc3, hob3⟩ := W3.R.ob
        refine ⟨_, rfl, r, dx3, _, rfl, hob3, rmF_no (by decide) _ _ _ _, _, rfl, r, pa, z, m, F, S, cs, ((p : Nat) : Int), rfl, W3.R, (fun h => by rw [hloc] at h; cases h), fun i' j' H4 F4 hl' R4 st4 => ?_⟩
        have hij : i = i' ∧ j = j' := by rw [hloc] at hl'; injection hl' with hl'; exact ⟨congrArg Prod.fst hl', congrArg Prod.snd hl'⟩
        obtain ⟨rfl, rfl⟩ := hij
        obtain ⟨W4, s4⟩ := W3.room R4 st4
        refine ⟨rfl, ?_⟩
        exact kQ H4 _ ⟨F4, G3, _, cs, es, W4, Nat.le_trans hN2 (Nat.le_succ _), rfl⟩ ((Stp.same sm2).trans (s3.trans s4))
    obtain ⟨F, G, S, cs, es, W, hN2, rfl⟩ := W0
    obtain ⟨dx, dd, bb, cc, hob⟩ := W.R.ob
    refine ⟨_, rfl, _, _, rfl, rfl, (by show (0 : Int) < 3; decide), _, _, rfl, rfl, _, rfl, iteD (fun hc3 => ?_) (fun hc3 => ?_)⟩
    · -- gathered
      have hs1 : 0 < m.sizes.length := mok.s1
      have hsl : (m.sizes.map V.int).length = m.sizes.length := List.length_map _
      have hn0 := Int.emod_nonneg (c / 9 / 3) (show ((m.sizes.length : Nat) : Int) ≠ 0 by omega)
      have hn1 := Int.emod_lt_of_pos (c / 9 / 3) (show 0 < ((m.sizes.length : Nat) : Int) by omega)
      obtain ⟨n, hn⟩ : ∃ n : Nat, c / 9 / 3 % ((m.sizes.length : Nat) : Int) = (n : Int) := ⟨(c / 9 / 3 % ((m.sizes.length : Nat) : Int)).toNat, by omega⟩
      have hnl : n < m.sizes.length := by omega
      obtain ⟨k0, hk0⟩ : ∃ k0, m.sizes[n]? = some k0 := ⟨_, List.getElem?_eq_getElem hnl⟩
      have hmem := List.mem_of_getElem? hk0
      obtain ⟨k, rfl⟩ := mok.nat hmem
      refine ⟨_, rfl, q0, _, _, .ref zs, rfl, rfl, .inl (.inl hq0), at_of (j := 2) (by decide) rfl, _, rfl, _, _, rfl, rfl, ⟨by decide, by decide⟩, _, rfl, q0, _, _, .ref zs, rfl, rfl, .inl (.inl hq0), at_of (j := 2) (by decide) rfl, zs, _, rfl, .inl (SqL.of hzs), _, _, rfl, rfl, (by show 0 < (((m.sizes.map V.int).length : Nat) : Int); omega), _, _, _, .int (k : Nat), rfl, rfl, SqL.of hzs, at_of (j := n) (by rw [hsl]; exact hn) (by rw [List.getElem?_map, hk0]; rfl), ?_⟩
      refine ⟨_, rfl, r, dx, _, rfl, hob, rmF_no (by decide) _ _ _ _, _, rfl, r, pa, z, m, F, S, cs, .int (k : Nat), rfl, W.R, .int _, (fun h => absurd hmem (h _ rfl)), fun k' hk' _ mq H1 F1 R1 tm1 nmq nmF st1 => ?_⟩
      have ek : k' = k := by injection hk' with hk'; omega
      subst ek
      obtain ⟨W1, s1⟩ := W.room R1 st1
      obtain ⟨xs, hx, hxl⟩ := W1.kpl
      have nGq : ¬ G mq := fun g => by obtain ⟨o, e⟩ := W.M.own g; rw [nmq] at e; cases e
      have nkq : mq ≠ kp := fun e => by obtain ⟨ys, h, _⟩ := W.kpl; rw [← e, nmq] at h; cases h
      obtain ⟨ys, hy, _⟩ := tm1.list
      refine ⟨_, rfl, .inl ⟨rfl, _, SqL.of hx⟩, _, rfl, _, rfl, mq, _, rfl, .inl (SqL.of hy), fun v1 hv1 => ?_⟩
      have sm2 := sm_n (o := .lst ys) hv1
      have tv := TupL.copy tm1 hy hv1
      refine ⟨(by show 2 ≤ sizeLine; decide), fun t ht => ?_⟩
      have sm3 := sm_n (o := .tup [.ref mq, .ref v1]) ht
      have hv1F : ftC F G kp es v1 ∨ H v1 = none := by
        by_cases f : F v1
        · exact .inl (.inl f)
        · right
          cases q : H v1 with
          | none => rfl
          | some o => rw [st1.1 _ _ q f] at hv1; cases hv1
      have W2 := W1.same sm2
      have W3 := W2.same sm3
      have nv : ¬ F1 v1 ∧ ¬ G v1 ∧ v1 ≠ kp := ⟨W1.R.nofoot hv1, (fun g => by obtain ⟨o, e⟩ := W1.M.own g; rw [hv1] at e; cases e), (fun e => by rw [e, hx] at hv1; cases hv1)⟩
      have nm : ¬ F1 mq ∧ ¬ G mq ∧ mq ≠ kp := ⟨nmF, nGq, nkq⟩
      have tm3 : KdAt _ mq (.pr (gathG m S cs k').mv) := (tm1.keep sm2).keep sm3
      have tv3 : KdAt _ v1 (.pr (gathG m S cs k').mv) := tv.keep sm3
      have hx3 := sm3 _ _ (sm2 _ _ hx)
      obtain ⟨W4, s4⟩ := W3.app hx3 tm3 tv3 upd_same nm nv (.inr nmq) hv1F (s1.trans ((Stp.same sm2).trans (Stp.same sm3)))
      have hxl' : xs.length < sizeLine := by rw [hxl]; exact Nat.lt_of_le_of_lt (Nat.le_trans hN2 hN) (by decide)
      refine ⟨kp, xs, _, rfl, rfl, hx3, hxl', ?_⟩
      have tm4 : TupP _ mq (gathG m S cs k').mv := (W4.en _ (List.mem_append_right _ List.mem_cons_self)).1
      have hq04 := s4.1 _ _ hq0 nq0
      generalize upd (upd (upd H1 v1 (.lst ys)) t (.tup [.ref mq, .ref v1])) kp (.lst (xs ++ [.ref t])) = H4 at W4 s4 tm4 hq04 ⊢
      refine ⟨_, rfl, _, rfl, _, rfl, q0, _, _, .int m.length, rfl, rfl, .inl (.inl hq04), at_of (j := 1) (by decide) rfl, _, rfl, d, m, G, S, cs, k', rfl, W4.M, mok, W.R.ok, hmem, fun mq2 H5 G5 M5 tm5 nmq2 nG5 st5 => ?_⟩
      obtain ⟨W5, s5⟩ := W4.model M5 st5
      have tm45 : TupP H5 mq (gathG m S cs k').mv := (W5.en _ (List.mem_append_right _ List.mem_cons_self)).1
      refine ⟨_, _, dp_pairs tm45, dp_pairs tm5, (sh_pairs _).shaped (by decide), (sh_pairs _).shaped (by decide), ?_⟩
      rw [(sh_pairs _).refl]
      exact kQ H5 _ ⟨F1, G5, _, _, _, W5, by rw [List.length_append]; exact Nat.succ_le_succ hN2, rfl⟩ (s4.trans s5)
    -- trimmed
    have Mm := W.M
    obtain ⟨s, I, rfl, rfl, rfl⟩ := Mm
    obtain ⟨g1, g2, g3⟩ := I.keysD hn40
    refine ⟨_, rfl, _, _, _, rfl, .inl I.d, g1, g2, fun ys p h1 h2 hp => ?_⟩
    obtain rfl := g3 ys h1 h2
    rw [castI_V]
    refine ⟨p, rfl, ⟨_, SqL.of upd_same⟩, fun D2 hD2 => ?_⟩
    have hD20 : H D2 = none := by rw [upd_ne (fun e => by rw [e, upd_same] at hD2; cases hD2)] at hD2; exact hD2
    have npD : p ≠ D2 := fun e => by rw [e, upd_same] at hD2; cases hD2
    refine lc_list (K := K) (a := p) (xs := nV (pgs s.S m.n)) (fun i H' => Same H H' ∧ H' p = some (.lst (nV (pgs s.S m.n))) ∧ H' D2 = some (.lst (nV (((pgs s.S m.n).take i).filter (isEmp s.S))))) ⟨?_, ?_, upd_same⟩ (fun i H' _ h => SqL.of h.2.1) ?_ ?_
    · exact sm_new (sm_n hp) hD20
    · rw [upd_ne npD]; exact upd_same
    · rintro i x H' hx ⟨sm, e2, e3⟩
      obtain ⟨k, hk, rfl⟩ := nV_at hx
      obtain ⟨y, hy⟩ := pgs_at hk
      have I' := I.same sm
      refine ⟨rfl, ?_⟩
      refine ⟨_, rfl, _, rfl, _, _, rfl, I'.dget hy, _, _, _, _, rfl, rfl, SqL.of (I'.p hy), at_of (j := 1) (by decide) rfl, _, _, rfl, .inl (SqL.of (I'.t hy)), rfl, bls_flat _, _, rfl, ?_⟩
      rw [if_pos rfl, inV_bl]
      have ee := isEmp_at hy
      refine iteNB (fun h => ?_) (fun h => ?_)
      · have h0 : cnt y.tk = 0 := Nat.eq_zero_of_not_pos fun q => by
          have := cnt_true.mpr (Nat.pos_iff_ne_zero.mp q)
          rw [h] at this; cases this
        refine ⟨_, rfl, _, e3, ?_, sm_new sm hD20, ?_, ?_⟩
        · rw [List.length_map]
          refine Nat.lt_of_le_of_lt (List.length_filter_le _ _) ?_
          rw [List.length_take]
          exact Nat.lt_of_le_of_lt (Nat.le_trans (Nat.min_le_right _ _) (Nat.le_trans (pgs_len _ _) hn40)) (by decide)
        · rw [upd_ne npD]; exact e2
        · rw [upd_same, filt_snoc hk, if_pos (by rw [ee]; exact decide_eq_true h0), nV_snoc]
      · have h0 := cnt_true.mp h
        refine ⟨sm, e2, ?_⟩
        rw [e3, filt_snoc hk, if_neg (by rw [ee, decide_eq_false h0]; decide), List.append_nil]
    rintro H2 ⟨sm2, e2, e3⟩
    have el : (nV (pgs s.S m.n)).length = (pgs s.S m.n).length := List.length_map _
    rw [el, List.take_length, emps_pgs] at e3
    have nD : ¬ footM s D2 := I.nofoot hD20
    have eel : (nV (emps s.S m.n)).length = (emps s.S m.n).length := List.length_map _
    refine ⟨_, rfl, D2, rfl, ⟨_, SqL.of e3⟩, for_list (K := K) (a := D2) (xs := nV (emps s.S m.n)) (fun i σ H' => ∃ (s1 : Ms) (v : Option V), σ = [some (.ref r), some (.ref (s.ad .d)), some (.ref q0), some (.ref kp), some (.int c), some (.int (c / 9)), none, none, none, none, none, none, some (.ref D2), v] ∧ MdI H' m.n s1 ∧ s1.ad .d = s.ad .d ∧ s1.S = dropAll s.S ((emps s.S m.n).take i) ∧ Stp (footM s) H (footM s1) H' ∧ H' D2 = some (.lst (nV (emps s.S m.n))) ∧ ¬ footM s1 D2)
      ⟨s, _, rfl, I.same sm2, rfl, rfl, Stp.same sm2, e3, nD⟩ (fun i σ H' _ h => by obtain ⟨s1, v, _, _, _, _, _, h, _⟩ := h; exact SqL.of h) ?_ ?_⟩
    · rintro i x σ H' hx ⟨s1, v, rfl, J, eD1, eS1, st, hq1, nq1⟩
      obtain ⟨t, ht, rfl⟩ := nV_at hx
      have htm := mem_emps.mp (List.mem_of_getElem? ht)
      have hnd := nodup_lt (emps_lt s.S m.n)
      have hnt : t ∉ (emps s.S m.n).take i := fun h => by
        obtain ⟨u, hu⟩ := List.getElem?_of_mem h
        rw [List.getElem?_take] at hu
        split at hu
        · rename_i hlt
          have := nd_ix hnd ht hu
          omega
        · cases hu
      have his : (s1.S t).isSome = true := by
        rw [eS1, dropAll_at, if_neg hnt]
        have := htm.2
        unfold isEmp at this
        cases e : s.S t with
        | none => rw [e] at this; cases this
        | some x => rfl
      have hd' : H' (s.ad .d) = some (.dK (kvR s1.ad s1.js)) := by rw [← eD1]; exact J.d
      have ev : valV (kvR s1.ad s1.js) (Sum.inl (t : Int)) = some (V.ref (s1.ad (.p t))) := by rw [valV_kvR, if_pos (J.mem_js.mpr his)]
      have J2 := J.drop (i := t)
      rw [eD1] at J2
      have ld : footM s1 (s.ad .d) := ⟨.d, trivial, eD1⟩
      have nDd : D2 ≠ s.ad .d := fun q => nq1 (by rw [q]; exact ld)
      refine ⟨_, rfl, _, rfl, .inl ⟨_, .inl hd'⟩, _, rfl, _, _, _, hd', rfl, ev, ?_⟩
      refine ⟨_, _, rfl, J2, eD1, ?_, st.trans ⟨fun a o e n => ?_, fun a q => .inl (footM_drop a q)⟩, ?_, fun q => nq1 (footM_drop _ q)⟩
      · show updT s1.S t none = _
        rw [take_at ht]
        unfold dropAll
        rw [foldl_snoc', eS1]; rfl
      · rw [upd_ne (fun q => n (by rw [q]; exact ld))]; exact e
      · rw [upd_ne nDd]; exact hq1
    · rintro σ H3 ⟨s1, v, rfl, J, eD1, eS1, st3, hq1, nq1⟩
      rw [eel, List.take_length] at eS1
      obtain ⟨W3, s3⟩ := W.model (G' := footM s1) (S2' := dropAll s.S (emps s.S m.n)) ⟨s1, J, eD1, eS1, rfl⟩ st3
      obtain ⟨dx3, dd3, bb3, cc3, hob3⟩ := W3.R.ob
      refine ⟨_, rfl, r, dx3, _, rfl, hob3, rmF_no (by decide) _ _ _ _, r, pa, z, m, F, s.S, cs, rfl, W3.R, fun H4 F4 R4 st4 => ?_⟩
      obtain ⟨W4, s4⟩ := W3.room R4 st4
      have hq4 := st4.1 _ _ hq1 (W.R.nofoot hD20)
      refine ⟨_, rfl, .int ((emps s.S m.n).length : Nat), "int", rfl, tInt, (by decide), _, rfl, iteT ?_⟩
      refine ⟨_, rfl, _, rfl, D2, _, rfl, .inl (SqL.of hq4), rfl, ?_⟩
      have := kQ H4 _ ⟨F4, _, _, cs, es, W4, Nat.le_trans hN2 (Nat.le_succ _), rfl⟩ (s3.trans s4)
      have e1 : decide (V.int ((emps s.S m.n).length : Nat) = V.int (((nV (emps s.S m.n)).length : Nat) : Int)) = true := by rw [eel]; exact decide_eq_true rfl
      rw [← e1] at this
      exact this
end
end Sb
set_option pp.maxSteps 1500
namespace Sb
open PySem PySem.Spec PyProof.Rows L2
theorem Stp.newT {T0 T' : Addr → Prop} {H H' : Hp} {a : Addr} (st : Stp T0 H T' H') (h : H' a = none) : T0 a ∨ H a = none := by
  by_cases f : T0 a
  · exact .inl f
  · right
    cases q : H a with
    | none => rfl
    | some o => rw [st.1 _ _ q f] at h; cases h
theorem noneB {H H' : Hp} {a : Addr} (sm : Same H H') (h : H' a = none) : H a = none := by
  cases q : H a with
  | none => rfl
  | some o => rw [sm _ _ q] at h; cases h
def sp_law_stands (K : PySem.W.Frag) (A : Ad) : Sp := fun vs H Q _ => ∃ (r pa z d kp q0 zs : Addr) (m : PlM) (N : Nat) (T : Addr → Prop), vs = [.ref r, .ref d, .ref q0, .ref kp] ∧ Sd A H r pa z m d kp N T ∧ H q0 = some (.tup [.int m.pages, .int m.length, .ref zs]) ∧
  ∀ H' T', Sd A H' r pa z m d kp 3 T' → Stp T H T' H' → Q (.bl true) H'
section
variable {P : Program} {w : World} {K : PySem.W.Frag} {mg : Str → Option Value} {base : Heap} {A : Ad}
theorem ok_law_stands (T : Tx K mg A) : Df P w K mg base 4 "_law_stands" ["_law_room", "_law_model", "_law_drawn", "_law_kept"] (sp_law_stands K A) := by
  refine Dd.ok T.d_law_stands sc_law_stands bi_law_stands (fun vs H Q E h => ?_) (fun f cdv Ar outer s H vs Q E hr h => ?_)
  · obtain ⟨r, pa, z, d, kp, q0, zs, m, N, T', rfl, _⟩ := h; rfl
  · obtain ⟨r, pa, z, d, kp, q0, zs, m, N, T0, rfl, W0, hq0, kQ⟩ := h
    refine ⟨_, (pss_cons (ps_for (passes_of rfl) rfl (pi_list (pv 3)) (pg_tup (by rfl) (pgs_cons (pg_name (i := 4) sc_law_stands.nd rfl (Or.inl rfl)) (pgs_cons (pg_name (i := 5) sc_law_stands.nd rfl (Or.inl rfl)) pgs_nil)))
    (pss_one (ps_if (pt_cmpR (op_neD hr.units) (pv 4) (pv 5) (nomark _)) (pss_one (ps_ret pe_bl))
    pss_nil)))
    (pss_cons (ps_setLc (i := 6) (own := [("_law_page", 7)]) (g := gName 7) (tt := tYes) (te := (L2.tTup (tCons (tVar 7) (tCons (tOp (rIxL K) (tDGet (tVar 1) (tVar 7)) (tC (.int 0))) (tCons (tBM K "list" (rCntB K) (tOp (rIxL K) (tDGet (tVar 1) (tVar 7)) (tC (.int 1))) (tCons (tC (.bl true)) tNil)) tNil))))) rfl sc_law_stands.nd rfl rfl (sw_true rfl rfl rfl (by decide +kernel)) (pi_list (pe_callB (call_sortedDI rfl) (by rfl) T.z_sorted (by decide +kernel) (pa_cons (pv 1) pa_nil))) (blkOk_by (own := [("_law_page", 7)]) (N := ["_law_room", "_law_model", "_law_drawn", "_law_kept", "_law_one", "_law_copy", "_law_shelves", "_law_page", "_law_pile", "_law_found"]) (sc := defScope s_law_stands) (by decide +kernel)) (fun _ _ _ _ _ => pg_name (i := 7) sc_law_stands.nd rfl (Or.inl rfl)) (fun _ _ _ _ _ => pts_nil) (fun _ _ _ _ _ => (pe_tup (pa_cons (pv 7) (pa_cons (pe_ix ix_list (pe_dget (hu_of hr) (pv 1) (pv 7) (fun _ _ => rfl)) pe_int (fun _ _ => rfl)) (pa_cons (pe_bm PySem.F.plainAttrs_list PySem.F.slot_list_count PySem.F.type_list_count mt_lcountB (pe_ix ix_list (pe_dget (hu_of hr) (pv 1) (pv 7) (fun _ _ => rfl)) pe_int (fun _ _ => rfl)) (pa_cons pe_bl pa_nil)) pa_nil))))))
    (pss_cons (ps_setLc (i := 8) (own := [("_law_page", 7)]) (g := gName 7) (tt := (tB (tDNotIn (tVar 7) (tVar 1)))) (te := (tVar 7)) rfl sc_law_stands.nd rfl rfl (sw_true rfl rfl rfl (by decide +kernel)) (pi_range1 (by rfl) T.z_range (pa_cons (pe_ix ix_tup (pv 2) pe_int (fun _ _ => rfl)) pa_nil)) (blkOk_by (own := [("_law_page", 7)]) (N := ["_law_room", "_law_model", "_law_drawn", "_law_kept", "_law_one", "_law_copy", "_law_shelves", "_law_page", "_law_pile", "_law_found"]) (sc := defScope s_law_stands) (by decide +kernel)) (fun _ _ _ _ _ => pg_name (i := 7) sc_law_stands.nd rfl (Or.inl rfl)) (fun _ _ _ _ _ => pts_one (pt_cmp (pc_dnotin (hu_of hr) (pv 7) (pv 1)))) (fun _ _ _ _ _ => (pv 7)))
    (pss_cons (ps_set (i := 9) sc_law_stands.nd rfl (Or.inl rfl) (pe_lst (pa_cons (pe_mf0 (ok_Room_shelves T) T.c_Room hr (by decide) (pv 0)) (pa_cons (pe_mf0 (ok_Room_pile T) T.c_Room hr (by decide) (pv 0)) (pa_cons (pe_mf0 (ok_Room_things T) T.c_Room hr (by decide) (pv 0)) pa_nil)))))
    (pss_cons (ps_expr (pe_bm0 PySem.F.plainAttrs_list PySem.F.slot_list_clear PySem.F.type_list_clear mt_clear (pv 3)))
    (pss_cons (ps_for (passes_of rfl) rfl (pi_list (pv 9)) (pg_name (i := 4) sc_law_stands.nd rfl (Or.inl rfl))
    (pss_one (ps_expr (pe_bm PySem.F.plainAttrs_list PySem.F.slot_list_append PySem.F.type_list_append mt_append (pv 3) (pa_cons (pe_tup (pa_cons (pv 4) (pa_cons (pe_callTy call_list_of (by rfl) T.z_list (by decide +kernel) (pa_cons (pv 4) pa_nil)) pa_nil))) pa_nil)))))
    (pss_one (ps_ret (pe_cmpR (op_eqD hr.units) (pv 9) (pe_lst (pa_cons (pv 6) (pa_cons (pv 8) (pa_cons (pe_df (ok_law_places T) hr (by decide) (by rfl) (pa_cons (pv 1) (pa_cons (pe_ix ix_tup (pv 2) pe_int (fun _ _ => rfl)) pa_nil))) pa_nil)))) (nomark _)))))))))), ?_⟩
    have nq0 : ¬ T0 q0 := fun h => by
      obtain ⟨o, e, n⟩ := W0.own h
      rw [hq0] at e
      exact n _ (Option.some.inj e).symm
    obtain ⟨F, G, S, cs, es, W, hN2, hT⟩ := W0
    have mok := W.R.pl.ok
    have hL := mok.eL
    have hn40 := plen m mok
    have hp1 := mok.p1
    -- the lists that were told
    obtain ⟨xs, hx, hxl⟩ := W.kpl
    refine ⟨_, rfl, kp, rfl, ⟨_, SqL.of hx⟩, for_list (K := K) (a := kp) (xs := xs) (fun i σ H' => H' = H ∧ ∃ v4 v5, σ = [some (.ref r), some (.ref d), some (.ref q0), some (.ref kp), v4, v5, none, none, none, none]) ⟨rfl, _, _, rfl⟩ (fun i σ H' _ h => by rw [h.1]; exact SqL.of hx) ?_ ?_⟩
    · rintro i x σ H' hxi ⟨eH, v4, v5, rfl⟩
      subst eH
      obtain ⟨t, row, rfl, hrow, ht⟩ := W.tp.at hx hxi
      rw [List.getElem?_map] at hrow
      cases ee : es[i]? with
      | none => rw [ee] at hrow; cases hrow
      | some e =>
      rw [ee] at hrow
      obtain rfl : keV e = row := Option.some.inj hrow
      obtain ⟨k1, k2⟩ := W.en e (List.mem_of_getElem? ee)
      refine ⟨t, _, rfl, .inl (.inl ht), rfl, _, _, rfl, _, _, rfl, rfl, ?_⟩
      refine ⟨_, rfl, _, rfl, _, _, k1.dp, k2.dp, e.2.2.shp.shaped (by decide), e.2.2.shp.shaped (by decide), _, rfl, ?_⟩
      rw [e.2.2.shp.refl]
      refine iteF ?_
      exact ⟨rfl, _, _, rfl⟩
    rintro σ H' ⟨eH, v4, v5, rfl⟩
    subst eH
    have Mm := W.M
    obtain ⟨s, I, rfl, rfl, rfl⟩ := Mm
    -- the table's shelves
    obtain ⟨g1, g2, g3⟩ := I.keysD hn40
    refine ⟨_, rfl, _, _, _, rfl, .inl I.d, g1, g2, fun ys p h1 h2 hp => ?_⟩
    obtain rfl := g3 ys h1 h2
    rw [castI_V]
    refine ⟨p, rfl, ⟨_, SqL.of upd_same⟩, fun D2 hD2 => ?_⟩
    have hD20 : H' D2 = none := by rw [upd_ne (fun e => by rw [e, upd_same] at hD2; cases hD2)] at hD2; exact hD2
    have npD : p ≠ D2 := fun e => by rw [e, upd_same] at hD2; cases hD2
    refine lc_list (K := K) (a := p) (xs := nV (pgs s.S m.n)) (fun i Ha => Same H' Ha ∧ Ha p = some (.lst (nV (pgs s.S m.n))) ∧ TupT Ha D2 (((pgs s.S m.n).take i).map fun i => (i, (sfOf s.S i).z, cnt (sfOf s.S i).tk))) ⟨sm_new (sm_n hp) hD20, ?_, TupL.nil upd_same⟩ (fun i Ha _ h => SqL.of h.2.1) ?_ ?_
    · rw [upd_ne npD]; exact upd_same
    · rintro i x Ha hxi ⟨sm, e1, e2⟩
      obtain ⟨q, hq, rfl⟩ := nV_at hxi
      obtain ⟨y, hy⟩ := pgs_at hq
      have I' := I.same sm
      have ey : sfOf s.S q = y := sfOf_at hy
      refine ⟨rfl, ?_⟩
      refine ⟨_, rfl, _, rfl, _, rfl, _, _, rfl, I'.dget hy, _, _, _, _, rfl, rfl, SqL.of (I'.p hy), at_of (j := 0) (by decide) rfl, _, rfl, _, rfl, _, _, rfl, I'.dget hy, _, _, _, _, rfl, rfl, SqL.of (I'.p hy), at_of (j := 1) (by decide) rfl, .inl ⟨rfl, _, SqL.of (I'.t hy)⟩, _, _, _, rfl, rfl, SqL.of (I'.t hy), (by show 3 ≤ sizeLine; decide), fun t ht => ?_⟩
      have f3 := e2.keep (sm_n (o := .tup (tripV (q, y.z, cnt y.tk))) ht)
      obtain ⟨xs', a1, a2, a3⟩ := f3.snoc (t := t) (r := tripV (q, y.z, cnt y.tk)) upd_same
      refine ⟨xs', a1, ?_, Same.up (fun b o e => sm_n ht _ _ (sm _ _ e)) hD20, ?_, ?_⟩
      · rw [a2, List.length_map, List.length_map, List.length_take]
        exact Nat.lt_of_le_of_lt (Nat.le_trans (Nat.min_le_right _ _) (Nat.le_trans (pgs_len _ _) hn40)) (by decide)
      · rw [upd_ne npD]; exact sm_n ht _ _ e1
      · rw [take_at hq, List.map_append]
        show TupL _ D2 ((_ ++ [(q, (sfOf s.S q).z, cnt (sfOf s.S q).tk)]).map tripV)
        rw [List.map_append, ey]
        exact a3
    rintro H1 ⟨sm1, _, eD2⟩
    have el : (nV (pgs s.S m.n)).length = (pgs s.S m.n).length := List.length_map _
    rw [el, List.take_length] at eD2
    have eD2 : TupT H1 D2 (shelvesOf s.S m.n) := eD2
    -- the table's pile
    have hq01 := sm1 _ _ hq0
    refine ⟨_, rfl, q0, _, _, .int m.pages, rfl, rfl, .inl (.inl hq01), at_of (j := 0) (by decide) rfl, _, rfl, (by omega), (by have := mok.p2; omega), fun D3 hD3 => lc_range (Pv := fun i Ha => Same H1 Ha ∧ Ha D3 = some (.lst (nV ((List.range i).filter fun q => (s.S q).isNone)))) ⟨sm_n hD3, upd_same⟩ ?_ ?_⟩
    · rintro i Ha hi ⟨sm, e1⟩
      have I' := (I.same sm1).same sm
      rw [Int.zero_add]
      refine ⟨rfl, ?_⟩
      have hi' : i < m.n := hi
      have em : (((s.S i).map fun _ => V.ref (s.ad (.p i))).isSome) = (s.S i).isSome := by cases s.S i <;> rfl
      refine ⟨_, rfl, _, rfl, _, _, rfl, I'.dgetO i, _, rfl, ?_⟩
      rw [em]
      refine iteNB (fun h => ?_) (fun h => ?_)
      · refine ⟨_, rfl, _, e1, ?_, sm_new sm hD3, ?_⟩
        · rw [List.length_map]
          refine Nat.lt_of_le_of_lt (List.length_filter_le _ _) ?_
          rw [List.length_range]
          exact Nat.lt_of_le_of_lt (Nat.le_of_lt (Nat.lt_of_lt_of_le hi' hn40)) (by decide)
        · have : (s.S i).isNone = true := by cases e : s.S i with
            | none => rfl
            | some x => rw [e] at h; cases h
          rw [upd_same, filt_range, if_pos this, nV_snoc]
      · refine ⟨sm, ?_⟩
        have : ¬ (s.S i).isNone = true := by cases e : s.S i with
          | none => rw [e] at h; cases h
          | some x => intro h; cases h
        rw [e1, filt_range, if_neg this, List.append_nil]
    rintro H2 ⟨sm2, eD3⟩
    have eD3 : H2 D3 = some (.lst (nV (nones s.S m.n))) := eD3
    have sm02 : Same H' H2 := fun b o e => sm2 _ _ (sm1 _ _ e)
    -- what the room tells
    have W2 := W.same sm02
    obtain ⟨dx, dd, bb, cc, hob⟩ := W2.R.ob
    refine ⟨_, rfl, r, dx, _, rfl, hob, rmF_no (by decide) _ _ _ _, r, pa, z, m, F, s.S, cs, rfl, W2.R, fun a1 H3 na1 ta1 sm3 => ?_⟩
    refine ⟨_, rfl, r, dx, _, rfl, sm3 _ _ hob, rmF_no (by decide) _ _ _ _, r, pa, z, m, F, s.S, cs, rfl, W2.R.same sm3, fun a2 H4 na2 ta2 sm4 => ?_⟩
    refine ⟨_, rfl, r, dx, _, rfl, sm4 _ _ (sm3 _ _ hob), rmF_no (by decide) _ _ _ _, r, pa, z, m, F, s.S, cs, rfl, (W2.R.same sm3).same sm4, fun a3 H5 na3 ta3 sm5 => ?_⟩
    refine ⟨(by show 3 ≤ sizeLine; decide), fun fo nfo => ?_⟩
    have sm6 := sm_n (o := .lst [.ref a1, .ref a2, .ref a3]) nfo
    have efo : upd H5 fo (.lst [.ref a1, .ref a2, .ref a3]) fo = some (.lst [.ref a1, .ref a2, .ref a3]) := upd_same
    have sm03 : Same H' H3 := fun b o e => sm3 _ _ (sm02 _ _ e)
    have sm04 : Same H' H4 := fun b o e => sm4 _ _ (sm03 _ _ e)
    have sm05 : Same H' H5 := fun b o e => sm5 _ _ (sm04 _ _ e)
    have sm36 : Same H3 (upd H5 fo (.lst [.ref a1, .ref a2, .ref a3])) := fun b o e => sm6 _ _ (sm5 _ _ (sm4 _ _ e))
    have sm46 : Same H4 (upd H5 fo (.lst [.ref a1, .ref a2, .ref a3])) := fun b o e => sm6 _ _ (sm5 _ _ e)
    have sm26 : Same H2 (upd H5 fo (.lst [.ref a1, .ref a2, .ref a3])) := fun b o e => sm36 _ _ (sm3 _ _ e)
    have sm06 : Same H' (upd H5 fo (.lst [.ref a1, .ref a2, .ref a3])) := fun b o e => sm6 _ _ (sm05 _ _ e)
    have n1 := noneB sm02 na1
    have n2 := noneB sm03 na2
    have n3 := noneB sm04 na3
    have nf0 := noneB sm05 nfo
    have nD3 := noneB sm1 hD3
    let aux : List (Addr × Kd) := [(a1, .tr (shelvesOf s.S m.n)), (a2, .ns (nones s.S m.n)), (a3, .pr (thingsOf m s.S)), (D2, .tr (shelvesOf s.S m.n)), (D3, .ns (nones s.S m.n))]
    have ax6 : ∀ it ∈ aux, KdAt (upd H5 fo (.lst [.ref a1, .ref a2, .ref a3])) it.1 it.2 := by
      intro it hit
      simp only [aux, List.mem_cons, List.mem_nil_iff, or_false] at hit
      rcases hit with rfl | rfl | rfl | rfl | rfl
      · exact ta1.keep sm36
      · exact sm46 _ _ ta2
      · exact ta3.keep sm6
      · exact (eD2.keep sm2).keep sm26
      · exact sm26 _ _ eD3
    have kpe := hx
    have off : ∀ a, H' a = none → ¬ F a ∧ ¬ footM s a ∧ a ≠ kp := fun a h => ⟨W.R.nofoot h, I.nofoot h, fun e => by rw [e, hx] at h; cases h⟩
    have axn : ∀ it ∈ aux, H' it.1 = none := by
      intro it hit
      simp only [aux, List.mem_cons, List.mem_nil_iff, or_false] at hit
      rcases hit with rfl | rfl | rfl | rfl | rfl
      · exact n1
      · exact n2
      · exact n3
      · exact hD20
      · exact nD3
    have W6 := W.same sm06
    have hx6 := sm06 _ _ hx
    have st6 : Stp T0 H' (ftC F (footM s) kp es) (upd H5 fo (.lst [.ref a1, .ref a2, .ref a3])) := by rw [hT]; exact Stp.same sm06
    generalize upd H5 fo (.lst [.ref a1, .ref a2, .ref a3]) = H6 at efo ax6 W6 hx6 st6 sm06 ⊢
    -- cleared
    refine ⟨_, rfl, .inl ⟨rfl, _, SqL.of hx6⟩, kp, _, rfl, rfl, hx6, ?_⟩
    obtain ⟨W7, st7⟩ := W6.clr st6
    have nfk : fo ≠ kp := (off fo nf0).2.2
    have k17 : ∀ {q : Addr} {o : HO}, q ≠ kp → H6 q = some o → upd H6 kp (.lst []) q = some o := fun n e => by rw [upd_ne n]; exact e
    have t27 : ∀ q x, H6 q = some (HO.tup x) → upd H6 kp (.lst []) q = some (.tup x) := fun q x e => k17 (fun z => by rw [z, hx6] at e; cases e) e
    have ax7 : ∀ it ∈ aux, KdAt (upd H6 kp (.lst [])) it.1 it.2 := fun it hit => (ax6 it hit).keepT (fun _ e => k17 (off _ (axn it hit)).2.2 e) t27
    have efo7 := k17 nfk efo
    generalize upd H6 kp (.lst []) = H7 at efo7 ax7 W7 st7 ⊢
    refine ⟨_, rfl, fo, rfl, ⟨_, SqL.of efo7⟩, for_list (K := K) (a := fo) (xs := [.ref a1, .ref a2, .ref a3]) (fun i σ Ha => ∃ es', SdC A Ha r pa z m (s.ad .d) kp F (footM s) s.S s.S cs es' ∧ es'.length ≤ i ∧ Stp T0 H' (ftC F (footM s) kp es') Ha ∧ Ha fo = some (.lst [.ref a1, .ref a2, .ref a3]) ∧ (∀ it ∈ aux, KdAt Ha it.1 it.2) ∧
      ∃ v4 v5 v7, σ = [some (.ref r), some (.ref (s.ad .d)), some (.ref q0), some (.ref kp), v4, v5, some (.ref D2), v7, some (.ref D3), some (.ref fo)]) ⟨[], W7, Nat.le_refl _, st7, efo7, ax7, _, _, _, rfl⟩ (fun i σ Ha _ h => by obtain ⟨_, _, _, _, h, _⟩ := h; exact SqL.of h) ?_ ?_⟩
    · rintro i x σ Ha hxi ⟨es', Wa, hla, sta, efa, axa, v4, v5, v7, rfl⟩
      obtain ⟨it, hit, rfl⟩ : ∃ it ∈ aux, x = .ref it.1 := by
        have hm := List.mem_of_getElem? hxi
        simp only [List.mem_cons, List.mem_nil_iff, or_false] at hm
        rcases hm with rfl | rfl | rfl
        · exact ⟨(a1, .tr (shelvesOf s.S m.n)), by simp [aux], rfl⟩
        · exact ⟨(a2, .ns (nones s.S m.n)), by simp [aux], rfl⟩
        · exact ⟨(a3, .pr (thingsOf m s.S)), by simp [aux], rfl⟩
      have kit := axa it hit
      obtain ⟨ys, hy⟩ := kit.list
      obtain ⟨xs', hx', hxl'⟩ := Wa.kpl
      refine ⟨_, rfl, .inl ⟨rfl, _, SqL.of hx'⟩, _, rfl, _, rfl, it.1, _, rfl, .inl (SqL.of hy), fun v1 hv1 => ?_⟩
      have smv := sm_n (o := .lst ys) hv1
      have tv := KdAt.copy hy hv1 kit
      refine ⟨(by show 2 ≤ sizeLine; decide), fun t ht => ?_⟩
      have smt := sm_n (o := .tup [.ref it.1, .ref v1]) ht
      have smb : Same Ha (upd (upd Ha v1 (.lst ys)) t (.tup [.ref it.1, .ref v1])) := fun b o e => smt _ _ (smv _ _ e)
      have nv : ¬ F v1 ∧ ¬ footM s v1 ∧ v1 ≠ kp := ⟨Wa.R.nofoot hv1, (fun g => by obtain ⟨o, e⟩ := Wa.M.own g; rw [hv1] at e; cases e), (fun e => by rw [e, hx'] at hv1; cases hv1)⟩
      have hxb := smb _ _ hx'
      obtain ⟨Wc, stc⟩ := (Wa.same smb).app hxb (kit.same smb) (tv.same smt) upd_same (off _ (axn it hit)) nv (.inr (axn it hit)) (sta.newT hv1) (sta.trans (Stp.same smb))
      refine ⟨kp, xs', _, rfl, rfl, hxb, ?_, ?_⟩
      · rw [hxl']
        have h3 : i < 3 := by have := (List.getElem?_eq_some_iff.mp hxi).1; exact this
        exact Nat.lt_of_le_of_lt (by omega : _ ≤ 3) (by decide)
      have k1c : ∀ {q : Addr} {o : HO}, q ≠ kp → Ha q = some o → upd (upd (upd Ha v1 (.lst ys)) t (.tup [.ref it.1, .ref v1])) kp (.lst (xs' ++ [.ref t])) q = some o := fun n e => by rw [upd_ne n]; exact smb _ _ e
      refine ⟨_, Wc, by rw [List.length_append]; exact Nat.succ_le_succ hla, stc, k1c nfk efa, fun it' hit' => (axa it' hit').keepT (fun _ e => k1c (off _ (axn it' hit')).2.2 e) fun q x e => k1c (fun z => by rw [z, hx'] at e; cases e) e, _, _, _, rfl⟩
    · rintro σ Ha ⟨es', Wa, hla, sta, efa, axa, v4, v5, v7, rfl⟩
      have hq0a := sta.1 _ _ hq0 nq0
      refine ⟨_, rfl, _, rfl, _, rfl, _, rfl, _, rfl, q0, _, _, .int m.length, rfl, rfl, .inl (.inl hq0a), at_of (j := 1) (by decide) rfl, s.ad .d, m, footM s, s.S, rfl, Wa.M, mok, Wa.R.ok, fun pl Hb npl tpl smb => ?_⟩
      refine ⟨(by show 3 ≤ sizeLine; decide), fun e he => ?_⟩
      have sme := sm_n (o := .lst [.ref D2, .ref D3, .ref pl]) he
      have smc : Same Ha (upd Hb e (.lst [.ref D2, .ref D3, .ref pl])) := fun b o q => sme _ _ (smb _ _ q)
      have b1 := (axa (a1, .tr (shelvesOf s.S m.n)) (by simp [aux])).same smc
      have b2 := (axa (a2, .ns (nones s.S m.n)) (by simp [aux])).same smc
      have b3 := (axa (a3, .pr (thingsOf m s.S)) (by simp [aux])).same smc
      have b4 := (axa (D2, .tr (shelvesOf s.S m.n)) (by simp [aux])).same smc
      have b5 := (axa (D3, .ns (nones s.S m.n)) (by simp [aux])).same smc
      have b6 : KdAt (upd Hb e (.lst [.ref D2, .ref D3, .ref pl])) pl (.pr (thingsOf m s.S)) := tpl.keep sme
      have shp : Shp (.list [Kd.dt (.tr (shelvesOf s.S m.n)), Kd.dt (.ns (nones s.S m.n)), Kd.dt (.pr (thingsOf m s.S))]) 3 := .list fun d hd => by
        simp only [List.mem_cons, List.mem_nil_iff, or_false] at hd
        rcases hd with rfl | rfl | rfl <;> exact Kd.shp _
      refine ⟨.list [Kd.dt (.tr (shelvesOf s.S m.n)), Kd.dt (.ns (nones s.S m.n)), Kd.dt (.pr (thingsOf m s.S))], .list [Kd.dt (.tr (shelvesOf s.S m.n)), Kd.dt (.ns (nones s.S m.n)), Kd.dt (.pr (thingsOf m s.S))], .lst (SqL.of (smc _ _ efa)) (.cons b1.dp (.cons b2.dp (.cons b3.dp .nil))), .lst (SqL.of upd_same) (.cons b4.dp (.cons b5.dp (.cons b6.dp .nil))), shp.shaped (by decide), shp.shaped (by decide), ?_⟩
      rw [shp.refl]
      exact kQ _ _ ⟨F, _, _, cs, es', Wa.same smc, hla, rfl⟩ (sta.trans (Stp.same smc))
end
end Sb
set_option pp.maxSteps 1500
namespace Sb
open PySem PySem.Spec PyProof.Rows L2
/-! ### the two sides -/
def Bo (A : Ad) (H9 : Hp) (U0 : Addr → Prop) (pa z : Addr) (m : PlM) (rA dA kA rB dB kB : Addr) (N : Nat) (H : Hp) : Prop :=
  ∃ TA TB, Sd A H rA pa z m dA kA N TA ∧ Sd A H rB pa z m dB kB N TB ∧ (∀ a, TA a → ¬ TB a) ∧ Stp U0 H9 (fun a => TA a ∨ TB a) H
section
variable {A : Ad} {H9 H : Hp} {U0 : Addr → Prop} {pa z : Addr} {m : PlM} {rA dA kA rB dB kB : Addr} {N : Nat}
theorem Bo.symm (B : Bo A H9 U0 pa z m rA dA kA rB dB kB N H) : Bo A H9 U0 pa z m rB dB kB rA dA kA N H := by
  obtain ⟨TA, TB, WA, WB, dj, st⟩ := B
  exact ⟨TB, TA, WB, WA, fun a h h' => dj a h' h, st.1, fun a h => st.2 a h.symm⟩
theorem Bo.keep (B : Bo A H9 U0 pa z m rA dA kA rB dB kB N H) {a : Addr} {o : HO} (h : H9 a = some o) (n : ¬ U0 a) : H a = some o := by
  obtain ⟨TA, TB, WA, WB, dj, st⟩ := B
  exact st.1 a o h n
theorem Bo.le (B : Bo A H9 U0 pa z m rA dA kA rB dB kB N H) {N' : Nat} (h : N ≤ N') : Bo A H9 U0 pa z m rA dA kA rB dB kB N' H := by
  obtain ⟨TA, TB, WA, WB, dj, st⟩ := B
  exact ⟨TA, TB, WA.le h, WB.le h, dj, st⟩
theorem Bo.same (B : Bo A H9 U0 pa z m rA dA kA rB dB kB N H) {H' : Hp} (sm : Same H H') : Bo A H9 U0 pa z m rA dA kA rB dB kB N H' := by
  obtain ⟨TA, TB, WA, WB, dj, st⟩ := B
  exact ⟨TA, TB, WA.other fun a o e _ => sm _ _ e, WB.other fun a o e _ => sm _ _ e, dj, st.trans (Stp.same sm)⟩
theorem Bo.pl (B : Bo A H9 U0 pa z m rA dA kA rB dB kB N H) : PlAt A H pa z m := by
  obtain ⟨TA, TB, ⟨F, G, S, cs, es, W, _⟩, _⟩ := B
  exact W.R.pl
theorem Bo.use (B : Bo A H9 U0 pa z m rA dA kA rB dB kB N H) (hpa : ∃ o, H9 pa = some o) (npa : ¬ U0 pa) (hz : ∃ o, H9 z = some o) (nz : ¬ U0 z) :
    ∃ TA, Sd A H rA pa z m dA kA N TA ∧ (∀ a, (∃ o, H9 a = some o) → ¬ U0 a → ¬ TA a) ∧ ∀ H' TA' N', N ≤ N' → Sd A H' rA pa z m dA kA N' TA' → Stp TA H TA' H' → Bo A H9 U0 pa z m rA dA kA rB dB kB N' H' := by
  obtain ⟨TA, TB, WA, WB, dj, st⟩ := B
  have nin : ∀ a, (∃ o, H9 a = some o) → ¬ U0 a → ¬ TA a ∧ ¬ TB a := fun a h n => by
    have := new_not st n h
    exact ⟨fun t => this (.inl t), fun t => this (.inr t)⟩
  refine ⟨TA, WA, fun a h n => (nin a h n).1, fun H' TA' N' hN WA' stA => ⟨TA', TB, WA', (WB.other fun a o e h => stA.1 a o e fun t => ?_).le hN, fun a t t' => ?_, st.trans ⟨fun a o e n => stA.1 a o e fun t => n (.inl t), fun a t => ?_⟩⟩⟩
  · rcases h with h | h | h | ⟨x, h⟩
    · exact dj a t h
    · rw [h] at t; exact (nin pa hpa npa).1 t
    · rw [h] at t; exact (nin z hz nz).1 t
    · obtain ⟨o', e', n'⟩ := WA.own t
      rw [e] at e'
      exact n' x (by rw [← Option.some.inj e', h])
  · rcases stA.2 a t with h | h
    · exact dj a h t'
    · obtain ⟨o', e', _⟩ := WB.own t'
      rw [h] at e'; cases e'
  · rcases t with t | t
    · exact (stA.2 a t).elim (fun h => .inl (.inl h)) .inr
    · exact .inl (.inr t)
/-- one of the two -/
theorem Bo.pick (B : Bo A H9 U0 pa z m rA dA kA rB dB kB N H) {j : Nat} (hj : j = 0 ∨ j = 1) : ∃ r d k r' d' k', ([.ref rA, .ref rB] : List V)[j]? = some (.ref r) ∧ ([.ref dA, .ref dB] : List V)[j]? = some (.ref d) ∧ ([.ref kA, .ref kB] : List V)[j]? = some (.ref k) ∧
    Bo A H9 U0 pa z m r d k r' d' k' N H ∧ ∀ N' H', Bo A H9 U0 pa z m r d k r' d' k' N' H' → Bo A H9 U0 pa z m rA dA kA rB dB kB N' H' := by
  rcases hj with rfl | rfl
  · exact ⟨rA, dA, kA, rB, dB, kB, rfl, rfl, rfl, B, fun _ _ h => h⟩
  · exact ⟨rB, dB, kB, rA, dA, kA, rfl, rfl, rfl, B.symm, fun _ _ h => h.symm⟩
end
theorem MdAt.new {H : Hp} {n : Nat} {d : Addr} (h : H d = some (.dK [])) : ∃ G, MdAt H n d G (fun _ => none) ∧ ∀ a, G a → a = d := by
  refine ⟨_, ⟨⟨fun _ => d, [], fun _ => none⟩, ⟨fun l hl => ?_, fun l l' h1 h2 _ => ?_, ?_, fun i hi => by cases hi⟩, rfl, rfl, rfl⟩, ?_⟩
  · cases l with
    | d => exact h
    | p i => cases (show (none : Option Sf).isSome = true from hl)
    | t i => cases (show (none : Option Sf).isSome = true from hl)
    | _ => exact (show False from hl).elim
  · have key : ∀ l, liveM (fun _ => none) l → l = .d := fun l hl => by
      cases l with
      | d => rfl
      | p i => cases (show (none : Option Sf).isSome = true from hl)
      | t i => cases (show (none : Option Sf).isSome = true from hl)
      | _ => exact (show False from hl).elim
    rw [key l h1, key l' h2]
  · have : pgs (fun _ => none) n = [] := by unfold pgs; simp
    show ([] : List Nat).Perm (pgs (fun _ => none) n)
    rw [this]
  · rintro a ⟨l, hl, e⟩
    exact e.symm
theorem neqA {H : Hp} {x y : Addr} {o : HO} (e : H x = some o) (n : H y = none) : x ≠ y := fun q => by rw [q, n] at e; cases e
end Sb
set_option pp.maxSteps 1500
namespace Sb
open PySem PySem.Spec PyProof.Rows L2
def sp_law (K : PySem.W.Frag) (A : Ad) : Sp := fun vs H Q _ => ∃ (a : Addr) (ns : List Int), vs = [.ref a] ∧ SqL K H a (ns.map V.int) ∧ ns.length ≤ 63 ∧ ∀ H', Q (.bl true) H'
section
variable {P : Program} {w : World} {K : PySem.W.Frag} {mg : Str → Option Value} {base : Heap} {A : Ad}
theorem ok_law (T : Tx K mg A) {f : Addr} {fd : FuncData} (F : FnP K "law" "law" s_law f fd) : FnOk P w K mg base CX0 9 f fd ["_law_script"] (sp_law K A) := by
  refine L2.FunD.ok F sc_law (fun vs H Q E h => ?_) (fun cdv Ar outer s H vs Q E hr h => ?_)
  · obtain ⟨a, ns, rfl, _⟩ := h; rfl
  · obtain ⟨a, ns, rfl, hS, hlen, k⟩ := h
    refine ⟨_, (pss_cons (ps_set (i := 1) sc_law.nd rfl (Or.inl rfl) (pe_df (ok_law_plan_by T) hr (by decide) (by rfl) (pa_cons (pv 0) pa_nil)))
    (pss_cons (ps_set (i := 2) sc_law.nd rfl (Or.inl rfl) (pe_if (ok_Plan_init T) T.g_Plan hr (by decide) (by rfl) (pa_cons (pe_ix ix_tup (pv 1) pe_int (fun _ _ => rfl)) (pa_cons (pe_ix ix_tup (pv 1) pe_int (fun _ _ => rfl)) (pa_cons (pe_callTy call_list_of (by rfl) T.z_list (by decide +kernel) (pa_cons (pe_ix ix_tup (pv 1) pe_int (fun _ _ => rfl)) pa_nil)) pa_nil)))))
    (pss_cons (ps_set (i := 3) sc_law.nd rfl (Or.inl rfl) (pe_lst (pa_cons (pe_if (ok_Room_init T) T.g_Room hr (by decide) (by rfl) (pa_cons (pv 2) pa_nil)) (pa_cons (pe_if (ok_Room_init T) T.g_Room hr (by decide) (by rfl) (pa_cons (pv 2) pa_nil)) pa_nil))))
    (pss_cons (ps_set (i := 4) sc_law.nd rfl (Or.inl rfl) (pe_lst (pa_cons pe_dnewK (pa_cons pe_dnewK pa_nil))))
    (pss_cons (ps_set (i := 5) sc_law.nd rfl (Or.inl rfl) (pe_lst (pa_cons (pe_lst pa_nil) (pa_cons (pe_lst pa_nil) pa_nil))))
    (pss_cons (ps_for (passes_of rfl) rfl (pi_enum (by rfl) T.z_enumerate (pa_cons (pe_slice sl_list (pv 0) (po_some pe_int) po_none) pa_nil)) (pg_tup (by rfl) (pgs_cons (pg_name (i := 6) sc_law.nd rfl (Or.inl rfl)) (pgs_cons (pg_name (i := 7) sc_law.nd rfl (Or.inl rfl)) pgs_nil)))
    (pss_cons (ps_set (i := 8) sc_law.nd rfl (Or.inl rfl) (pe_callTy call_int1 (by rfl) T.z_int (by decide +kernel) (pa_cons (pe_cmpR op_eq (pe_op op_mod (pv 6) pe_int) pe_int (nomark _)) pa_nil)))
    (pss_cons (ps_set (i := 9) sc_law.nd rfl (Or.inl rfl) (pe_ix ix_list (pv 3) (pv 8) (fun _ _ => rfl)))
    (pss_cons (ps_set (i := 10) sc_law.nd rfl (Or.inl rfl) (pe_ix ix_list (pv 4) (pv 8) (fun _ _ => rfl)))
    (pss_cons (ps_if (pt_not (pt_val (pe_df (ok_law_deed T) hr (by decide) (by rfl) (pa_cons (pv 9) (pa_cons (pv 10) (pa_cons (pv 1) (pa_cons (pe_ix ix_list (pv 5) (pv 8) (fun _ _ => rfl)) (pa_cons (pv 7) pa_nil)))))))) (pss_one (ps_ret pe_bl))
    pss_nil)
    (pss_one (ps_if (PW.pt (pw_and (pt_cmpR op_eq (pe_op op_mod (pv 6) pe_int) pe_int (nomark _)) (pw_and1 (pt_not (pt_val (pe_df (ok_law_stands T) hr (by decide) (by rfl) (pa_cons (pv 9) (pa_cons (pv 10) (pa_cons (pv 1) (pa_cons (pe_ix ix_list (pv 5) (pv 8) (fun _ _ => rfl)) pa_nil)))))))))) (pss_one (ps_ret pe_bl))
    pss_nil)))))))
    (pss_cons (ps_if (PW.pt (pw_or (pt_cmpR (op_neD hr.units) (pe_tup (pa_cons (pe_fld (pv 2) rfl) (pa_cons (pe_fld (pv 2) rfl) pa_nil))) (pe_tup (pa_cons (pe_ix ix_tup (pv 1) pe_int (fun _ _ => rfl)) (pa_cons (pe_ix ix_tup (pv 1) pe_int (fun _ _ => rfl)) pa_nil))) (nomark _)) (pw_or1 (pt_cmpR (op_neD hr.units) (pe_fld (pv 2) rfl) (pe_ix ix_tup (pv 1) pe_int (fun _ _ => rfl)) (nomark _))))) (pss_one (ps_ret pe_bl))
    pss_nil)
    (pss_cons (ps_if (pt_not (pt_val (pe_df (ok_law_stands T) hr (by decide) (by rfl) (pa_cons (pe_ix ix_list (pv 3) pe_int (fun _ _ => rfl)) (pa_cons (pe_ix ix_list (pv 4) pe_int (fun _ _ => rfl)) (pa_cons (pv 1) (pa_cons (pe_ix ix_list (pv 5) pe_int (fun _ _ => rfl)) pa_nil))))))) (pss_one (ps_ret pe_bl))
    pss_nil)
    (pss_one (ps_ret (pe_df (ok_law_stands T) hr (by decide) (by rfl) (pa_cons (pe_ix ix_list (pv 3) pe_int (fun _ _ => rfl)) (pa_cons (pe_ix ix_list (pv 4) pe_int (fun _ _ => rfl)) (pa_cons (pv 1) (pa_cons (pe_ix ix_list (pv 5) pe_int (fun _ _ => rfl)) pa_nil))))))))))))))), ?_⟩
    -- the plan that is drawn
    refine ⟨_, rfl, a, ns, rfl, hS, fun m q0 zs H1 mok nq0 nzs hq0 hzs sm1 => ?_⟩
    have hS1 := sm1.seq hS
    -- Plan(..)
    refine ⟨_, rfl, q0, _, _, .int m.pages, rfl, rfl, .inl (.inl hq0), at_of (j := 0) (by decide) rfl, _, rfl, q0, _, _, .int m.length, rfl, rfl, .inl (.inl hq0), at_of (j := 1) (by decide) rfl, _, rfl, q0, _, _, .ref zs, rfl, rfl, .inl (.inl hq0), at_of (j := 2) (by decide) rfl, zs, _, rfl, .inl (SqL.of hzs), fun q2 hq2 p dp np ndp nep => ?_⟩
    have nq2p : q2 ≠ p := fun e => by rw [← e, upd_same] at np; cases np
    have nq2d : q2 ≠ dp := fun e => by rw [← e, upd_same] at ndp; cases ndp
    have hq22 : (upd (upd (upd H1 q2 (.lst (m.sizes.map V.int))) dp (.own p)) p (.ins A.Plan dp [])) q2 = some (.lst (m.sizes.map V.int)) := by rw [upd_ne nq2p, upd_ne nq2d]; exact upd_same
    refine ⟨p, dp, .int m.pages, .int m.length, .ref q2, some (m.sizes.map V.int), rfl, .int _, .int _, ⟨q2, rfl, hq22, (by rw [List.length_map]; have := mok.s2; omega), fun x hx => ?_⟩, upd_same, fun hf => ?_, fun m' z H3 _ e1 e2 e3 hz S k3 => ⟨rfl, ?_⟩⟩
    · obtain ⟨i, _, rfl⟩ := List.mem_map.mp hx
      exact .int i
    · rw [mok.good] at hf; cases hf
    obtain ⟨mp, ml, ms⟩ := m'
    obtain rfl : mp = m.pages := (V.int.inj e1).symm
    obtain rfl : ml = m.length := (V.int.inj e2).symm
    have e4 : m.sizes = ms := (List.map_inj_right fun a b h => V.int.inj h).mp (Option.some.inj e3)
    subst e4
    have S' : PlAt A H3 p z m := S
    have sm13 : Same H1 H3 := plan_made mok k3 hq2 np ndp
    -- the rooms
    refine ⟨_, rfl, fun r1 dr1 nr1 ndr1 ner1 => ?_⟩
    have smR1 : Same H3 (upd (upd H3 dr1 (.own r1)) r1 (.ins A.Room dr1 [])) := fun b o e => by rw [upd_ne (ne_of_none e nr1), upd_ne (ne_of_none e ndr1)]; exact e
    refine ⟨r1, p, z, dr1, m, rfl, S'.keep fun b o e _ => smR1 b o e, upd_same, fun H5 F1 R1 fF1 kF1 => ⟨rfl, ?_⟩⟩
    have sm35 : Same H3 H5 := fun b o e => kF1 b o (smR1 b o e) (ne_of_none e nr1)
    have nF1 : ∀ b, F1 b → H3 b = none := fun b hb => by
      rcases fF1 b hb with h | h
      · rw [h]; exact nr1
      · exact noneB smR1 h
    have S5 : PlAt A H5 p z m := S'.keep fun b o e _ => sm35 b o e
    refine ⟨_, rfl, fun r2 dr2 nr2 ndr2 ner2 => ?_⟩
    have smR2 : Same H5 (upd (upd H5 dr2 (.own r2)) r2 (.ins A.Room dr2 [])) := fun b o e => by rw [upd_ne (ne_of_none e nr2), upd_ne (ne_of_none e ndr2)]; exact e
    refine ⟨r2, p, z, dr2, m, rfl, S5.keep fun b o e _ => smR2 b o e, upd_same, fun H7 F2 R2 fF2 kF2 => ⟨rfl, ?_⟩⟩
    have sm57 : Same H5 H7 := fun b o e => kF2 b o (smR2 b o e) (ne_of_none e nr2)
    have nF2 : ∀ b, F2 b → H5 b = none := fun b hb => by
      rcases fF2 b hb with h | h
      · rw [h]; exact nr2
      · exact noneB smR2 h
    have R17 := R1.same sm57
    have sm17 : Same H1 H7 := fun b o e => sm57 _ _ (sm35 _ _ (sm13 _ _ e))
    have sm37 : Same H3 H7 := fun b o e => sm57 _ _ (sm35 _ _ e)
    have f12 : ∀ b, F1 b → ¬ F2 b := fun b h1 h2 => by
      obtain ⟨o, e⟩ := R1.own h1
      rw [nF2 b h2] at e; cases e
    refine ⟨(by show 2 ≤ sizeLine; decide), fun rl nrl => ?_⟩
    have smb := sm_n (H := H7) (o := .lst [.ref r1, .ref r2]) nrl
    have erl : upd H7 rl (.lst [.ref r1, .ref r2]) rl = some (.lst [.ref r1, .ref r2]) := upd_same
    generalize upd H7 rl (.lst [.ref r1, .ref r2]) = Hb at smb erl ⊢
    -- the tables
    intro d1 nd1
    have smc := sm_n (H := Hb) (o := .dK []) nd1
    have ed1 : upd Hb d1 (.dK []) d1 = some (.dK []) := upd_same
    generalize upd Hb d1 (.dK []) = Hc at smc ed1 ⊢
    intro d2 nd2
    have smd := sm_n (H := Hc) (o := .dK []) nd2
    have ed2 : upd Hc d2 (.dK []) d2 = some (.dK []) := upd_same
    generalize upd Hc d2 (.dK []) = Hd at smd ed2 ⊢
    refine ⟨(by show 2 ≤ sizeLine; decide), fun ml nml => ?_⟩
    have sme := sm_n (H := Hd) (o := .lst [.ref d1, .ref d2]) nml
    have eml : upd Hd ml (.lst [.ref d1, .ref d2]) ml = some (.lst [.ref d1, .ref d2]) := upd_same
    generalize upd Hd ml (.lst [.ref d1, .ref d2]) = He at sme eml ⊢
    -- the lists that are kept
    refine ⟨(by decide), fun k1 nk1 => ?_⟩
    have smf := sm_n (H := He) (o := .lst []) nk1
    have ek1 : upd He k1 (.lst []) k1 = some (.lst []) := upd_same
    generalize upd He k1 (.lst []) = Hf at smf ek1 ⊢
    refine ⟨(by decide), fun k2 nk2 => ?_⟩
    have smg := sm_n (H := Hf) (o := .lst []) nk2
    have ek2 : upd Hf k2 (.lst []) k2 = some (.lst []) := upd_same
    generalize upd Hf k2 (.lst []) = Hg at smg ek2 ⊢
    refine ⟨(by show 2 ≤ sizeLine; decide), fun kl nkl => ?_⟩
    have smh := sm_n (H := Hg) (o := .lst [.ref k1, .ref k2]) nkl
    have ekl : upd Hg kl (.lst [.ref k1, .ref k2]) kl = some (.lst [.ref k1, .ref k2]) := upd_same
    generalize upd Hg kl (.lst [.ref k1, .ref k2]) = Hh at smh ekl ⊢
    have sb_h : Same Hb Hh := fun b o e => smh _ _ (smg _ _ (smf _ _ (sme _ _ (smd _ _ (smc _ _ e)))))
    have s7h : Same H7 Hh := fun b o e => sb_h _ _ (smb _ _ e)
    have s1h : Same H1 Hh := fun b o e => s7h _ _ (sm17 _ _ e)
    refine ⟨_, rfl, _, rfl, a, _, rfl, s1h.seq hS1, fun sl nsl => ?_⟩
    have ecut : cutV (ns.map V.int) (some ((4 : Nat) : Int)) none = (ns.drop 4).map V.int := by rw [cut_from, List.map_drop]
    have ecut' : cutV (ns.map V.int) (some 4) none = (ns.drop 4).map V.int := ecut
    rw [ecut']
    have smi := sm_n (H := Hh) (o := .lst ((ns.drop 4).map V.int)) nsl
    have esl : upd Hh sl (.lst ((ns.drop 4).map V.int)) sl = some (.lst ((ns.drop 4).map V.int)) := upd_same
    generalize upd Hh sl (.lst ((ns.drop 4).map V.int)) = H9 at smi esl ⊢
    -- who lies where
    have t7 : Same H7 H9 := fun b o e => smi _ _ (s7h _ _ e)
    have t1 : Same H1 H9 := fun b o e => t7 _ _ (sm17 _ _ e)
    have t3 : Same H3 H9 := fun b o e => t7 _ _ (sm37 _ _ e)
    have tb : Same Hb H9 := fun b o e => smi _ _ (sb_h _ _ e)
    have td : Same Hd H9 := fun b o e => smi _ _ (smh _ _ (smg _ _ (smf _ _ (sme _ _ e))))
    have tc : Same Hc H9 := fun b o e => td _ _ (smd _ _ e)
    have te : Same He H9 := fun b o e => smi _ _ (smh _ _ (smg _ _ (smf _ _ e)))
    have tf : Same Hf H9 := fun b o e => smi _ _ (smh _ _ (smg _ _ e))
    have tg : Same Hg H9 := fun b o e => smi _ _ (smh _ _ e)
    have c7b : ∀ {x : Addr}, Hb x = none → H7 x = none := noneB smb
    have cbc : ∀ {x : Addr}, Hc x = none → Hb x = none := noneB smc
    have ccd : ∀ {x : Addr}, Hd x = none → Hc x = none := noneB smd
    have cde : ∀ {x : Addr}, He x = none → Hd x = none := noneB sme
    have cef : ∀ {x : Addr}, Hf x = none → He x = none := noneB smf
    have cfg : ∀ {x : Addr}, Hg x = none → Hf x = none := noneB smg
    have cgh : ∀ {x : Addr}, Hh x = none → Hg x = none := noneB smh
    have d1_7 := c7b nd1
    have d2_b := cbc nd2
    have d2_7 := c7b d2_b
    have ml_c := ccd nml
    have ml_7 := c7b (cbc ml_c)
    have k1_d := cde nk1
    have k1_c := ccd k1_d
    have k1_b := cbc k1_c
    have k1_7 := c7b k1_b
    have k2_e := cef nk2
    have k2_d := cde k2_e
    have k2_c := ccd k2_d
    have k2_b := cbc k2_c
    have k2_7 := c7b k2_b
    have kl_f := cfg nkl
    have kl_d := cde (cef kl_f)
    have kl_c := ccd kl_d
    have kl_7 := c7b (cbc kl_c)
    have sl_g := cgh nsl
    have sl_f := cfg sl_g
    have sl_d := cde (cef sl_f)
    have sl_c := ccd sl_d
    have sl_7 := c7b (cbc sl_c)
    have offF : ∀ {x : Addr}, H7 x = none → ¬ F1 x ∧ ¬ F2 x := fun h => ⟨R17.nofoot h, R2.nofoot h⟩
    obtain ⟨G1, M1, g1⟩ := MdAt.new (n := m.n) (tc _ _ ed1)
    obtain ⟨G2, M2, g2⟩ := MdAt.new (n := m.n) (td _ _ ed2)
    have pa3 : ∃ o, H3 p = some o := by obtain ⟨dx, h⟩ := S'.ob; exact ⟨_, h⟩
    have z3 : ∃ o, H3 z = some o := ⟨_, S'.sz⟩
    have ne3 : ∀ {x y : Addr}, (∃ o, H3 x = some o) → H7 y = none → x ≠ y := fun h n => by obtain ⟨o, e⟩ := h; exact neqA (sm37 _ _ e) n
    have W1 : SdC A H9 r1 p z m d1 k1 F1 G1 (fun _ => none) (fun _ => none) _ [] := ⟨R17.same t7, M1, TupL.nil (tf _ _ ek1), (fun e he => by cases he), fun b f g => (offF d1_7).1 (by rw [← g1 b g]; exact f), (offF k1_7).1, (fun g => neqA ed1 k1_c (g1 _ g).symm), (fun e he => by cases he), ⟨⟨fun g => ne3 pa3 d1_7 (g1 _ g), fun g => ne3 z3 d1_7 (g1 _ g)⟩, ne3 pa3 k1_7, ne3 z3 k1_7⟩⟩
    have W2 : SdC A H9 r2 p z m d2 k2 F2 G2 (fun _ => none) (fun _ => none) _ [] := ⟨R2.same t7, M2, TupL.nil (tg _ _ ek2), (fun e he => by cases he), fun b f g => (offF d2_7).2 (by rw [← g2 b g]; exact f), (offF k2_7).2, (fun g => neqA ed2 k2_d (g2 _ g).symm), (fun e he => by cases he), ⟨⟨fun g => ne3 pa3 d2_7 (g2 _ g), fun g => ne3 z3 d2_7 (g2 _ g)⟩, ne3 pa3 k2_7, ne3 z3 k2_7⟩⟩
    obtain ⟨U0, hU0⟩ : ∃ U0 : Addr → Prop, U0 = fun b => ftC F1 G1 k1 [] b ∨ ftC F2 G2 k2 [] b := ⟨_, rfl⟩
    have inU : ∀ {x : Addr}, U0 x → F1 x ∨ F2 x ∨ x = d1 ∨ x = d2 ∨ x = k1 ∨ x = k2 := fun {x} h => by
      rw [hU0] at h
      rcases h with (h | h | h | ⟨e, he, _⟩) | (h | h | h | ⟨e, he, _⟩)
      · exact .inl h
      · exact .inr (.inr (.inl (g1 _ h)))
      · exact .inr (.inr (.inr (.inr (.inl h))))
      · cases he
      · exact .inr (.inl h)
      · exact .inr (.inr (.inr (.inl (g2 _ h))))
      · exact .inr (.inr (.inr (.inr (.inr h))))
      · cases he
    have dj0 : ∀ b, ftC F1 G1 k1 [] b → ¬ ftC F2 G2 k2 [] b := fun b h h' => by
      rcases h with h | h | h | ⟨e, he, _⟩
      · rcases h' with h' | h' | h' | ⟨e, he, _⟩
        · exact f12 b h h'
        · exact (offF d2_7).1 (by rw [← g2 b h']; exact h)
        · exact (offF k2_7).1 (by rw [← h']; exact h)
        · cases he
      · have e1 := g1 b h
        rcases h' with h' | h' | h' | ⟨e, he, _⟩
        · exact (offF d1_7).2 (by rw [← e1]; exact h')
        · exact neqA ed1 nd2 (by rw [← e1, ← g2 b h'])
        · exact neqA ed1 k2_c (by rw [← e1, ← h'])
        · cases he
      · rcases h' with h' | h' | h' | ⟨e, he, _⟩
        · exact (offF k1_7).2 (by rw [← h]; exact h')
        · exact neqA ed2 k1_d (by rw [← h, ← g2 b h'])
        · exact neqA ek1 nk2 (by rw [← h, ← h'])
        · cases he
      · cases he
    have B0 : Bo A H9 U0 p z m r1 d1 k1 r2 d2 k2 3 H9 := ⟨_, _, ⟨F1, G1, _, _, [], W1, Nat.zero_le _, rfl⟩, ⟨F2, G2, _, _, [], W2, Nat.zero_le _, rfl⟩, dj0, by rw [hU0]; exact Stp.refl⟩
    have off3 : ∀ {x : Addr}, (∃ o, H3 x = some o) → ¬ U0 x := fun {x} hx h => by
      rcases inU h with h | h | h | h | h | h
      · obtain ⟨o, e⟩ := hx; rw [nF1 _ h] at e; cases e
      · obtain ⟨o, e⟩ := hx; have := sm35 _ _ e; rw [nF2 _ h] at this; cases this
      · exact ne3 hx d1_7 h
      · exact ne3 hx d2_7 h
      · exact ne3 hx k1_7 h
      · exact ne3 hx k2_7 h
    have upa := off3 pa3
    have uz := off3 z3
    have uq0 := off3 ⟨_, sm13 _ _ hq0⟩
    have uzs := off3 ⟨_, sm13 _ _ hzs⟩
    have url : ¬ U0 rl := fun h => by
      rcases inU h with h | h | h | h | h | h
      · exact (offF nrl).1 h
      · exact (offF nrl).2 h
      · exact neqA erl nd1 h
      · exact neqA erl d2_b h
      · exact neqA erl k1_b h
      · exact neqA erl k2_b h
    have uml : ¬ U0 ml := fun h => by
      rcases inU h with h | h | h | h | h | h
      · exact (offF ml_7).1 h
      · exact (offF ml_7).2 h
      · exact neqA ed1 ml_c h.symm
      · exact neqA ed2 nml h.symm
      · exact neqA eml nk1 h
      · exact neqA eml k2_e h
    have ukl : ¬ U0 kl := fun h => by
      rcases inU h with h | h | h | h | h | h
      · exact (offF kl_7).1 h
      · exact (offF kl_7).2 h
      · exact neqA ed1 kl_c h.symm
      · exact neqA ed2 kl_d h.symm
      · exact neqA ek1 kl_f h.symm
      · exact neqA ek2 nkl h.symm
    have usl : ¬ U0 sl := fun h => by
      rcases inU h with h | h | h | h | h | h
      · exact (offF sl_7).1 h
      · exact (offF sl_7).2 h
      · exact neqA ed1 sl_c h.symm
      · exact neqA ed2 sl_d h.symm
      · exact neqA ek1 sl_f h.symm
      · exact neqA ek2 sl_g h.symm
    have hq9 := t1 _ _ hq0
    have hzs9 := t1 _ _ hzs
    have erl9 := tb _ _ erl
    have eml9 := te _ _ eml
    have ekl9 := smi _ _ ekl
    have pa9 : ∃ o, H9 p = some o := by obtain ⟨o, e⟩ := pa3; exact ⟨o, t3 _ _ e⟩
    have z9 : ∃ o, H9 z = some o := by obtain ⟨o, e⟩ := z3; exact ⟨o, t3 _ _ e⟩
    have hdl : ((ns.drop 4).map V.int).length ≤ 63 := by rw [List.length_map, List.length_drop]; omega
    -- deed by deed
    refine ⟨sl, _, rfl, SqL.of esl, for_it walk_enum (fun i σ H' => Bo A H9 U0 p z m r1 d1 k1 r2 d2 k2 (3 + i) H' ∧ ∃ v6 v7 v8 v9 v10, σ = [some (.ref a), some (.ref q0), some (.ref p), some (.ref rl), some (.ref ml), some (.ref kl), v6, v7, v8, v9, v10]) ⟨B0, _, _, _, _, _, rfl⟩ (fun i σ H' _ h => SqL.of (h.1.keep esl usl)) ?_ ?_⟩
    · rintro i x σ Ha Ha' hi ⟨Ba, v6, v7, v8, v9, v10, rfl⟩ ⟨T, x1, x2, rfl, hT, rfl, hx1, hx2⟩
      obtain rfl : V.int (i : Nat) = x1 := Option.some.inj hx1
      have hx2 : ((ns.drop 4).map V.int)[i]? = some x2 := hx2
      rw [List.getElem?_map] at hx2
      obtain ⟨c, hc⟩ : ∃ c, (ns.drop 4)[i]? = some c := by
        cases q : (ns.drop 4)[i]? with
        | none => rw [q] at hx2; cases hx2
        | some c => exact ⟨c, rfl⟩
      rw [hc] at hx2
      obtain rfl : V.int c = x2 := Option.some.inj hx2
      have smT := sm_n (o := .tup [.int (i : Nat), .int c]) hT
      have eT : upd Ha T (.tup [.int (i : Nat), .int c]) T = some (.tup [.int (i : Nat), .int c]) := upd_same
      have Bb := Ba.same smT
      generalize upd Ha T (.tup [.int (i : Nat), .int c]) = Hx at smT eT Bb ⊢
      refine ⟨T, _, rfl, .inl (.inl eT), rfl, _, _, rfl, _, _, rfl, rfl, ?_⟩
      refine ⟨_, rfl, _, _, rfl, rfl, (by show (0 : Int) < 3; decide), rfl, .inr ⟨_, rfl, ?_⟩⟩
      obtain ⟨j, hj, hj01⟩ : ∃ j : Nat, (if decide (V.int (((i : Nat) : Int) % 3) = V.int 2) = true then (1 : Int) else 0) = ((j : Nat) : Int) ∧ (j = 0 ∨ j = 1) := by
        by_cases q : decide (V.int (((i : Nat) : Int) % 3) = V.int 2) = true
        · exact ⟨1, by rw [if_pos q]; rfl, .inr rfl⟩
        · exact ⟨0, by rw [if_neg q]; rfl, .inl rfl⟩
      obtain ⟨r, d, kk, r', d', kk', hr_, hd_, hk_, Bp, back⟩ := Bb.pick hj01
      have qx := Bb.keep hq9 uq0
      have zx := Bb.keep hzs9 uzs
      refine ⟨_, rfl, _, rfl, _, _, _, .ref r, rfl, rfl, SqL.of (Bb.keep erl9 url), at_of (j := j) hj hr_, ?_⟩
      refine ⟨_, rfl, _, rfl, _, _, _, .ref d, rfl, rfl, SqL.of (Bb.keep eml9 uml), at_of (j := j) hj hd_, ?_⟩
      obtain ⟨TA, WA, offA, useA⟩ := Bp.use pa9 upa z9 uz
      refine ⟨_, rfl, _, rfl, _, rfl, _, rfl, _, rfl, _, _, _, .ref kk, rfl, rfl, SqL.of (Bb.keep ekl9 ukl), at_of (j := j) hj hk_, _, rfl, r, p, z, d, kk, q0, zs, m, 3 + i, TA, c, rfl, WA, (by omega), qx, zx, offA _ ⟨_, hzs9⟩ uzs, fun Hy Ty Wy sty => ?_⟩
      have By := useA Hy Ty _ (Nat.le_succ _) Wy sty
      have qy := By.keep hq9 uq0
      refine ⟨_, rfl, ?_⟩
      refine iteF ?_
      refine ⟨_, rfl, _, _, rfl, rfl, (by show (0 : Int) < 5; decide), rfl, _, rfl, iteD (fun _ => ?_) (fun _ => ?_)⟩
      · obtain ⟨TB, WB, offB, useB⟩ := By.use pa9 upa z9 uz
        refine ⟨_, rfl, _, rfl, _, rfl, _, rfl, _, rfl, _, _, _, .ref kk, rfl, rfl, SqL.of (By.keep ekl9 ukl), at_of (j := j) hj hk_, r, p, z, d, kk, q0, zs, m, _, TB, rfl, WB, qy, fun Hz Tz Wz stz => ?_⟩
        refine ⟨_, rfl, ?_⟩
        refine iteF ?_
        exact ⟨back _ _ (useB Hz Tz (3 + (i + 1)) (by omega) (Wz.le (by omega)) stz), _, _, _, _, _, rfl⟩
      · exact ⟨back _ _ By, _, _, _, _, _, rfl⟩
    · rintro σ Ha ⟨Ba, v6, v7, v8, v9, v10, rfl⟩
      have pl := Ba.pl
      have qa := Ba.keep hq9 uq0
      refine ⟨_, rfl, pl.fPages T ⟨_, rfl, pl.fLength T ⟨(by show 2 ≤ sizeLine; decide), fun t1' ht1 => ?_⟩⟩⟩
      have sA := sm_n (H := Ha) (o := .tup [.int m.pages, .int m.length]) ht1
      have eA : upd Ha t1' (.tup [.int m.pages, .int m.length]) t1' = some (.tup [.int m.pages, .int m.length]) := upd_same
      have Bb := Ba.same sA
      generalize upd Ha t1' (.tup [.int m.pages, .int m.length]) = Hx at sA eA Bb ⊢
      have qb := sA _ _ qa
      refine ⟨_, rfl, q0, _, _, .int m.pages, rfl, rfl, .inl (.inl qb), at_of (j := 0) (by decide) rfl, _, rfl, q0, _, _, .int m.length, rfl, rfl, .inl (.inl qb), at_of (j := 1) (by decide) rfl, (by show 2 ≤ sizeLine; decide), fun t2' ht2 => ?_⟩
      have sB := sm_n (H := Hx) (o := .tup [.int m.pages, .int m.length]) ht2
      have eB : upd Hx t2' (.tup [.int m.pages, .int m.length]) t2' = some (.tup [.int m.pages, .int m.length]) := upd_same
      have Bc := Bb.same sB
      have eA2 := sB _ _ eA
      generalize upd Hx t2' (.tup [.int m.pages, .int m.length]) = Hy at sB eB Bc eA2 ⊢
      have sh2 : Shp (.tuple [.int m.pages, .int m.length]) 1 := .tuple fun d hd => by
        simp only [List.mem_cons, List.mem_nil_iff, or_false] at hd
        rcases hd with rfl | rfl <;> exact .int _
      refine ⟨.tuple [.int m.pages, .int m.length], .tuple [.int m.pages, .int m.length], .tup (.inl (.inl eA2)) (.cons (.int _) (.cons (.int _) .nil)), .tup (.inl (.inl eB)) (.cons (.int _) (.cons (.int _) .nil)), sh2.shaped (by decide), sh2.shaped (by decide), _, rfl, ?_⟩
      rw [sh2.refl]
      refine iteF ?_
      have plc := Bc.pl
      have qc := Bc.keep hq9 uq0
      have zc := Bc.keep hzs9 uzs
      refine ⟨_, rfl, plc.fSizes T ⟨_, rfl, q0, _, _, .ref zs, rfl, rfl, .inl (.inl qc), at_of (j := 2) (by decide) rfl, dInts m.sizes, dInts m.sizes, dp_ints (SqL.of plc.sz), dp_ints (SqL.of zc), (sh_ints _).shaped (by decide), (sh_ints _).shaped (by decide), _, rfl, ?_⟩⟩
      rw [(sh_ints _).refl]
      refine iteF ?_
      -- both stand
      obtain ⟨TA, WA, offA, useA⟩ := Bc.use pa9 upa z9 uz
      refine ⟨_, rfl, _, _, _, .ref r1, rfl, rfl, SqL.of (Bc.keep erl9 url), at_of (j := 0) (by decide) rfl, _, rfl, _, _, _, .ref d1, rfl, rfl, SqL.of (Bc.keep eml9 uml), at_of (j := 0) (by decide) rfl, _, rfl, _, rfl, _, _, _, .ref k1, rfl, rfl, SqL.of (Bc.keep ekl9 ukl), at_of (j := 0) (by decide) rfl, r1, p, z, d1, k1, q0, zs, m, _, TA, rfl, WA, qc, fun Hz Tz Wz stz => ?_⟩
      refine ⟨_, rfl, ?_⟩
      refine iteF ?_
      have Bz := (useA Hz Tz _ (Nat.le_refl _) (Wz.le (by omega)) stz).symm
      obtain ⟨TB, WB, offB, useB⟩ := Bz.use pa9 upa z9 uz
      refine ⟨_, rfl, _, _, _, .ref r2, rfl, rfl, SqL.of (Bz.keep erl9 url), at_of (j := 1) (by decide) rfl, _, rfl, _, _, _, .ref d2, rfl, rfl, SqL.of (Bz.keep eml9 uml), at_of (j := 1) (by decide) rfl, _, rfl, _, rfl, _, _, _, .ref k2, rfl, rfl, SqL.of (Bz.keep ekl9 ukl), at_of (j := 1) (by decide) rfl, r2, p, z, d2, k2, q0, zs, m, _, TB, rfl, WB, Bz.keep hq9 uq0, fun Hw Tw Ww stw => ?_⟩
      exact k _
end
end Sb
set_option maxHeartbeats 0
namespace Sb
open PySem PySem.W PySem.Calls PySem.Spec PyProof.Rows L2
def dd_own_shelves : He.DefD := ⟨("own_shelves", none), "own_shelves", "own_shelves", defArgs s_own_shelves, defBody s_own_shelves, defScope s_own_shelves, [], []⟩
def dd_rank : He.DefD := ⟨("rank", none), "rank", "rank", defArgs s_rank, defBody s_rank, defScope s_rank, [], []⟩
def dd_staying : He.DefD := ⟨("staying", none), "staying", "staying", defArgs s_staying, defBody s_staying, defScope s_staying, [], []⟩
def dd_moved : He.DefD := ⟨("moved", none), "moved", "moved", defArgs s_moved, defBody s_moved, defScope s_moved, [], []⟩
def dd_gathered : He.DefD := ⟨("gathered", none), "gathered", "gathered", defArgs s_gathered, defBody s_gathered, defScope s_gathered, [], []⟩
def dd_Shelf_init : He.DefD := ⟨("Shelf", some "__init__"), "__init__", "Shelf.__init__", defArgs s_Shelf_init, defBody s_Shelf_init, defScope s_Shelf_init, [], []⟩
def dd_Shelf_out : He.DefD := ⟨("Shelf", some "out"), "out", "Shelf.out", defArgs s_Shelf_out, defBody s_Shelf_out, defScope s_Shelf_out, [], []⟩
def dd_Shelf_free : He.DefD := ⟨("Shelf", some "free"), "free", "Shelf.free", defArgs s_Shelf_free, defBody s_Shelf_free, defScope s_Shelf_free, [], []⟩
def dd_Shelf_has_free : He.DefD := ⟨("Shelf", some "has_free"), "has_free", "Shelf.has_free", defArgs s_Shelf_has_free, defBody s_Shelf_has_free, defScope s_Shelf_has_free, [], []⟩
def dd_Shelf_is_out : He.DefD := ⟨("Shelf", some "is_out"), "is_out", "Shelf.is_out", defArgs s_Shelf_is_out, defBody s_Shelf_is_out, defScope s_Shelf_is_out, [], []⟩
def dd_Shelf_take : He.DefD := ⟨("Shelf", some "take"), "take", "Shelf.take", defArgs s_Shelf_take, defBody s_Shelf_take, defScope s_Shelf_take, [], []⟩
def dd_Shelf_give : He.DefD := ⟨("Shelf", some "give"), "give", "Shelf.give", defArgs s_Shelf_give, defBody s_Shelf_give, defScope s_Shelf_give, [], []⟩
def dd_Room_init : He.DefD := ⟨("Room", some "__init__"), "__init__", "Room.__init__", defArgs s_Room_init, defBody s_Room_init, defScope s_Room_init, [], []⟩
def dd_Room_place_of : He.DefD := ⟨("Room", some "place_of"), "place_of", "Room.place_of", defArgs s_Room_place_of, defBody s_Room_place_of, defScope s_Room_place_of, [], []⟩
def dd_Room_empties : He.DefD := ⟨("Room", some "empties"), "empties", "Room.empties", defArgs s_Room_empties, defBody s_Room_empties, defScope s_Room_empties, [], []⟩
def dd_Room_give_page : He.DefD := ⟨("Room", some "give_page"), "give_page", "Room.give_page", defArgs s_Room_give_page, defBody s_Room_give_page, defScope s_Room_give_page, [], []⟩
def dd_Room_fresh_page : He.DefD := ⟨("Room", some "fresh_page"), "fresh_page", "Room.fresh_page", defArgs s_Room_fresh_page, defBody s_Room_fresh_page, defScope s_Room_fresh_page, [], []⟩
def dd_Room_shelf_for : He.DefD := ⟨("Room", some "shelf_for"), "shelf_for", "Room.shelf_for", defArgs s_Room_shelf_for, defBody s_Room_shelf_for, defScope s_Room_shelf_for, [], []⟩
def dd_Room_wish : He.DefD := ⟨("Room", some "wish"), "wish", "Room.wish", defArgs s_Room_wish, defBody s_Room_wish, defScope s_Room_wish, [], []⟩
def dd_Room_found : He.DefD := ⟨("Room", some "found"), "found", "Room.found", defArgs s_Room_found, defBody s_Room_found, defScope s_Room_found, [], []⟩
def dd_Room_give_back : He.DefD := ⟨("Room", some "give_back"), "give_back", "Room.give_back", defArgs s_Room_give_back, defBody s_Room_give_back, defScope s_Room_give_back, [], []⟩
def dd_Room_trim : He.DefD := ⟨("Room", some "trim"), "trim", "Room.trim", defArgs s_Room_trim, defBody s_Room_trim, defScope s_Room_trim, [], []⟩
def dd_Room_room_for : He.DefD := ⟨("Room", some "room_for"), "room_for", "Room.room_for", defArgs s_Room_room_for, defBody s_Room_room_for, defScope s_Room_room_for, [], []⟩
def dd_Room_cell : He.DefD := ⟨("Room", some "cell"), "cell", "Room.cell", defArgs s_Room_cell, defBody s_Room_cell, defScope s_Room_cell, [], []⟩
def dd_Room_read : He.DefD := ⟨("Room", some "read"), "read", "Room.read", defArgs s_Room_read, defBody s_Room_read, defScope s_Room_read, [], []⟩
def dd_Room_write : He.DefD := ⟨("Room", some "write"), "write", "Room.write", defArgs s_Room_write, defBody s_Room_write, defScope s_Room_write, [], []⟩
def dd_Room_gather : He.DefD := ⟨("Room", some "gather"), "gather", "Room.gather", defArgs s_Room_gather, defBody s_Room_gather, defScope s_Room_gather, [], []⟩
def dd_Room_things : He.DefD := ⟨("Room", some "things"), "things", "Room.things", defArgs s_Room_things, defBody s_Room_things, defScope s_Room_things, [], []⟩
def dd_Room_shelves : He.DefD := ⟨("Room", some "shelves"), "shelves", "Room.shelves", defArgs s_Room_shelves, defBody s_Room_shelves, defScope s_Room_shelves, [], []⟩
def dd_Room_pile : He.DefD := ⟨("Room", some "pile"), "pile", "Room.pile", defArgs s_Room_pile, defBody s_Room_pile, defScope s_Room_pile, [], []⟩
def dd_is_whole : He.DefD := ⟨("is_whole", none), "is_whole", "is_whole", defArgs s_is_whole, defBody s_is_whole, defScope s_is_whole, [], []⟩
def dd_Plan_init : He.DefD := ⟨("Plan", some "__init__"), "__init__", "Plan.__init__", defArgs s_Plan_init, defBody s_Plan_init, defScope s_Plan_init, [], []⟩
def dd_Plan_size_for : He.DefD := ⟨("Plan", some "size_for"), "size_for", "Plan.size_for", defArgs s_Plan_size_for, defBody s_Plan_size_for, defScope s_Plan_size_for, [], []⟩
def dd_Plan_per : He.DefD := ⟨("Plan", some "per"), "per", "Plan.per", defArgs s_Plan_per, defBody s_Plan_per, defScope s_Plan_per, [], []⟩
def dd_law_cell_at : He.DefD := ⟨("_law_cell_at", none), "_law_cell_at", "_law_cell_at", defArgs s_law_cell_at, defBody s_law_cell_at, defScope s_law_cell_at, [], []⟩
def dd_law_whole : He.DefD := ⟨("_law_whole", none), "_law_whole", "_law_whole", defArgs s_law_whole, defBody s_law_whole, defScope s_law_whole, [], []⟩
def dd_law_sizes_by : He.DefD := ⟨("_law_sizes_by", none), "_law_sizes_by", "_law_sizes_by", defArgs s_law_sizes_by, defBody s_law_sizes_by, defScope s_law_sizes_by, [], []⟩
def dd_law_plan_by : He.DefD := ⟨("_law_plan_by", none), "_law_plan_by", "_law_plan_by", defArgs s_law_plan_by, defBody s_law_plan_by, defScope s_law_plan_by, [], []⟩
def dd_law_size_by : He.DefD := ⟨("_law_size_by", none), "_law_size_by", "_law_size_by", defArgs s_law_size_by, defBody s_law_size_by, defScope s_law_size_by, [], []⟩
def dd_law_fullest : He.DefD := ⟨("_law_fullest", none), "_law_fullest", "_law_fullest", defArgs s_law_fullest, defBody s_law_fullest, defScope s_law_fullest, [], []⟩
def dd_law_fresh : He.DefD := ⟨("_law_fresh", none), "_law_fresh", "_law_fresh", defArgs s_law_fresh, defBody s_law_fresh, defScope s_law_fresh, [], []⟩
def dd_law_wished : He.DefD := ⟨("_law_wished", none), "_law_wished", "_law_wished", defArgs s_law_wished, defBody s_law_wished, defScope s_law_wished, [], []⟩
def dd_law_places : He.DefD := ⟨("_law_places", none), "_law_places", "_law_places", defArgs s_law_places, defBody s_law_places, defScope s_law_places, [], []⟩
def dd_law_given : He.DefD := ⟨("_law_given", none), "_law_given", "_law_given", defArgs s_law_given, defBody s_law_given, defScope s_law_given, [], []⟩
def dd_law_gathered_by : He.DefD := ⟨("_law_gathered_by", none), "_law_gathered_by", "_law_gathered_by", defArgs s_law_gathered_by, defBody s_law_gathered_by, defScope s_law_gathered_by, [], []⟩
def dd_law_left : He.DefD := ⟨("_law_left", none), "_law_left", "_law_left", defArgs s_law_left, defBody s_law_left, defScope s_law_left, [], []⟩
def dd_law_told : He.DefD := ⟨("_law_told", none), "_law_told", "_law_told", defArgs s_law_told, defBody s_law_told, defScope s_law_told, [], []⟩
def dd_law_got : He.DefD := ⟨("_law_got", none), "_law_got", "_law_got", defArgs s_law_got, defBody s_law_got, defScope s_law_got, [], []⟩
def dd_law_deed : He.DefD := ⟨("_law_deed", none), "_law_deed", "_law_deed", defArgs s_law_deed, defBody s_law_deed, defScope s_law_deed, [], []⟩
def dd_law_stands : He.DefD := ⟨("_law_stands", none), "_law_stands", "_law_stands", defArgs s_law_stands, defBody s_law_stands, defScope s_law_stands, [], []⟩
def dd_law : He.DefD := ⟨("law", none), "law", "law", defArgs s_law, defBody s_law, defScope s_law, [], []⟩
def fn : List He.DefD := [dd_own_shelves, dd_rank, dd_staying, dd_moved, dd_gathered, dd_Shelf_init, dd_Shelf_out, dd_Shelf_free, dd_Shelf_has_free, dd_Shelf_is_out, dd_Shelf_take, dd_Shelf_give, dd_Room_init, dd_Room_place_of, dd_Room_empties, dd_Room_give_page, dd_Room_fresh_page, dd_Room_shelf_for, dd_Room_wish, dd_Room_found, dd_Room_give_back, dd_Room_trim, dd_Room_room_for, dd_Room_cell, dd_Room_read, dd_Room_write, dd_Room_gather, dd_Room_things, dd_Room_shelves, dd_Room_pile, dd_is_whole, dd_Plan_init, dd_Plan_size_for, dd_Plan_per, dd_law_cell_at, dd_law_whole, dd_law_sizes_by, dd_law_plan_by, dd_law_size_by, dd_law_fullest, dd_law_fresh, dd_law_wished, dd_law_places, dd_law_given, dd_law_gathered_by, dd_law_left, dd_law_told, dd_law_got, dd_law_deed, dd_law_stands, dd_law]
def fa : List He.Fa := [.free "ValueError", .free "bool", .free "enumerate", .free "int", .free "isinstance", .free "len", .free "list", .free "min", .free "range", .free "reversed", .free "sorted", .free "sum", .int "MOST_PAGES" 40, .int "MOST_LENGTH" 60, .int "MOST_SIZES" 8, .glo "RoomError", .exc "RoomError", .glo "BadPlan", .exc "BadPlan", .glo "BadWish", .exc "BadWish", .glo "TooLarge", .exc "TooLarge", .glo "NoSize", .exc "NoSize", .glo "NoRoom", .exc "NoRoom", .glo "NotOut", .exc "NotOut", .glo "OutOfThing", .exc "OutOfThing", .exm "BadPlan" "TooLarge" false, .exm "BadPlan" "NoRoom" false, .exm "BadWish" "TooLarge" false, .exm "BadWish" "NoRoom" false, .exm "TooLarge" "TooLarge" true, .exm "TooLarge" "NoRoom" false, .exm "NoSize" "TooLarge" false, .exm "NoSize" "NoRoom" false, .exm "NoRoom" "TooLarge" false, .exm "NoRoom" "NoRoom" true, .exm "NotOut" "TooLarge" false, .exm "NotOut" "NoRoom" false, .exm "OutOfThing" "TooLarge" false, .exm "OutOfThing" "NoRoom" false, .cls "Shelf", .glo "Shelf", .noat "Shelf" "page", .noat "Shelf" "size", .noat "Shelf" "taken", .noat "Shelf" "many", .cls "Room", .glo "Room", .noat "Room" "plan", .noat "Room" "rows", .noat "Room" "bare", .noat "Room" "cells", .cls "Plan", .glo "Plan", .noat "Plan" "pages", .noat "Plan" "length", .noat "Plan" "sizes", .glo "own_shelves", .glo "rank", .glo "staying", .glo "moved", .glo "gathered", .mkr "Shelf", .meth "Shelf" "out", .meth "Shelf" "free", .meth "Shelf" "has_free", .meth "Shelf" "is_out", .meth "Shelf" "take", .meth "Shelf" "give", .mkr "Room", .meth "Room" "place_of", .meth "Room" "empties", .meth "Room" "give_page", .meth "Room" "fresh_page", .meth "Room" "shelf_for", .meth "Room" "wish", .meth "Room" "found", .meth "Room" "give_back", .meth "Room" "trim", .meth "Room" "room_for", .meth "Room" "cell", .meth "Room" "read", .meth "Room" "write", .meth "Room" "gather", .meth "Room" "things", .meth "Room" "shelves", .meth "Room" "pile", .glo "is_whole", .mkr "Plan", .meth "Plan" "size_for", .meth "Plan" "per", .glo "_law_cell_at", .glo "_law_whole", .glo "_law_sizes_by", .glo "_law_plan_by", .glo "_law_size_by", .glo "_law_fullest", .glo "_law_fresh", .glo "_law_wished", .glo "_law_places", .glo "_law_given", .glo "_law_gathered_by", .glo "_law_left", .glo "_law_told", .glo "_law_got", .glo "_law_deed", .glo "_law_stands", .glo "law"]
def fx : Fx := []
theorem facts {K : PySem.W.Frag} {h : Heap} {mg : Str → Option Value} (X : K.In h) (G : h.Ns mainGlobals mg) (c : He.SaysD fa fn K) (c2 : (fx.all fun f => f K) = true) : Tx K mg ⟨He.ga K "Shelf", He.ga K "Room", He.ga K "Plan", He.ga K "RoomError", He.ga K "BadPlan", He.ga K "BadWish", He.ga K "TooLarge", He.ga K "NoSize", He.ga K "NoRoom", He.ga K "NotOut", He.ga K "OutOfThing"⟩ where
  z_ValueError := He.free_ok X G (c.fact 0 (f := .free "ValueError") rfl)
  z_bool := He.free_ok X G (c.fact 1 (f := .free "bool") rfl)
  z_enumerate := He.free_ok X G (c.fact 2 (f := .free "enumerate") rfl)
  z_int := He.free_ok X G (c.fact 3 (f := .free "int") rfl)
  z_isinstance := He.free_ok X G (c.fact 4 (f := .free "isinstance") rfl)
  z_len := He.free_ok X G (c.fact 5 (f := .free "len") rfl)
  z_list := He.free_ok X G (c.fact 6 (f := .free "list") rfl)
  z_min := He.free_ok X G (c.fact 7 (f := .free "min") rfl)
  z_range := He.free_ok X G (c.fact 8 (f := .free "range") rfl)
  z_reversed := He.free_ok X G (c.fact 9 (f := .free "reversed") rfl)
  z_sorted := He.free_ok X G (c.fact 10 (f := .free "sorted") rfl)
  z_sum := He.free_ok X G (c.fact 11 (f := .free "sum") rfl)
  k_MOST_PAGES := He.int_ok X G (c.fact 12 (f := .int "MOST_PAGES" 40) rfl)
  k_MOST_LENGTH := He.int_ok X G (c.fact 13 (f := .int "MOST_LENGTH" 60) rfl)
  k_MOST_SIZES := He.int_ok X G (c.fact 14 (f := .int "MOST_SIZES" 8) rfl)
  e_RoomError := (have z := He.exc_ok (c.fact 16 (f := .exc "RoomError") rfl); ⟨He.glo_ok X G (c.fact 15 (f := .glo "RoomError") rfl), z.1, z.2.1, z.2.2.1, z.2.2.2⟩)
  e_BadPlan := (have z := He.exc_ok (c.fact 18 (f := .exc "BadPlan") rfl); ⟨He.glo_ok X G (c.fact 17 (f := .glo "BadPlan") rfl), z.1, z.2.1, z.2.2.1, z.2.2.2⟩)
  e_BadWish := (have z := He.exc_ok (c.fact 20 (f := .exc "BadWish") rfl); ⟨He.glo_ok X G (c.fact 19 (f := .glo "BadWish") rfl), z.1, z.2.1, z.2.2.1, z.2.2.2⟩)
  e_TooLarge := (have z := He.exc_ok (c.fact 22 (f := .exc "TooLarge") rfl); ⟨He.glo_ok X G (c.fact 21 (f := .glo "TooLarge") rfl), z.1, z.2.1, z.2.2.1, z.2.2.2⟩)
  e_NoSize := (have z := He.exc_ok (c.fact 24 (f := .exc "NoSize") rfl); ⟨He.glo_ok X G (c.fact 23 (f := .glo "NoSize") rfl), z.1, z.2.1, z.2.2.1, z.2.2.2⟩)
  e_NoRoom := (have z := He.exc_ok (c.fact 26 (f := .exc "NoRoom") rfl); ⟨He.glo_ok X G (c.fact 25 (f := .glo "NoRoom") rfl), z.1, z.2.1, z.2.2.1, z.2.2.2⟩)
  e_NotOut := (have z := He.exc_ok (c.fact 28 (f := .exc "NotOut") rfl); ⟨He.glo_ok X G (c.fact 27 (f := .glo "NotOut") rfl), z.1, z.2.1, z.2.2.1, z.2.2.2⟩)
  e_OutOfThing := (have z := He.exc_ok (c.fact 30 (f := .exc "OutOfThing") rfl); ⟨He.glo_ok X G (c.fact 29 (f := .glo "OutOfThing") rfl), z.1, z.2.1, z.2.2.1, z.2.2.2⟩)
  x_BadPlan_TooLarge := He.exm_ok (c.fact 31 (f := .exm "BadPlan" "TooLarge" false) rfl)
  x_BadPlan_NoRoom := He.exm_ok (c.fact 32 (f := .exm "BadPlan" "NoRoom" false) rfl)
  x_BadWish_TooLarge := He.exm_ok (c.fact 33 (f := .exm "BadWish" "TooLarge" false) rfl)
  x_BadWish_NoRoom := He.exm_ok (c.fact 34 (f := .exm "BadWish" "NoRoom" false) rfl)
  x_TooLarge_TooLarge := He.exm_ok (c.fact 35 (f := .exm "TooLarge" "TooLarge" true) rfl)
  x_TooLarge_NoRoom := He.exm_ok (c.fact 36 (f := .exm "TooLarge" "NoRoom" false) rfl)
  x_NoSize_TooLarge := He.exm_ok (c.fact 37 (f := .exm "NoSize" "TooLarge" false) rfl)
  x_NoSize_NoRoom := He.exm_ok (c.fact 38 (f := .exm "NoSize" "NoRoom" false) rfl)
  x_NoRoom_TooLarge := He.exm_ok (c.fact 39 (f := .exm "NoRoom" "TooLarge" false) rfl)
  x_NoRoom_NoRoom := He.exm_ok (c.fact 40 (f := .exm "NoRoom" "NoRoom" true) rfl)
  x_NotOut_TooLarge := He.exm_ok (c.fact 41 (f := .exm "NotOut" "TooLarge" false) rfl)
  x_NotOut_NoRoom := He.exm_ok (c.fact 42 (f := .exm "NotOut" "NoRoom" false) rfl)
  x_OutOfThing_TooLarge := He.exm_ok (c.fact 43 (f := .exm "OutOfThing" "TooLarge" false) rfl)
  x_OutOfThing_NoRoom := He.exm_ok (c.fact 44 (f := .exm "OutOfThing" "NoRoom" false) rfl)
  c_Shelf := He.cls_ok (c.fact 45 (f := .cls "Shelf") rfl)
  g_Shelf := He.glo_ok X G (c.fact 46 (f := .glo "Shelf") rfl)
  n_Shelf_page := He.noat_ok (c.fact 47 (f := .noat "Shelf" "page") rfl)
  n_Shelf_size := He.noat_ok (c.fact 48 (f := .noat "Shelf" "size") rfl)
  n_Shelf_taken := He.noat_ok (c.fact 49 (f := .noat "Shelf" "taken") rfl)
  n_Shelf_many := He.noat_ok (c.fact 50 (f := .noat "Shelf" "many") rfl)
  c_Room := He.cls_ok (c.fact 51 (f := .cls "Room") rfl)
  g_Room := He.glo_ok X G (c.fact 52 (f := .glo "Room") rfl)
  n_Room_plan := He.noat_ok (c.fact 53 (f := .noat "Room" "plan") rfl)
  n_Room_rows := He.noat_ok (c.fact 54 (f := .noat "Room" "rows") rfl)
  n_Room_bare := He.noat_ok (c.fact 55 (f := .noat "Room" "bare") rfl)
  n_Room_cells := He.noat_ok (c.fact 56 (f := .noat "Room" "cells") rfl)
  c_Plan := He.cls_ok (c.fact 57 (f := .cls "Plan") rfl)
  g_Plan := He.glo_ok X G (c.fact 58 (f := .glo "Plan") rfl)
  n_Plan_pages := He.noat_ok (c.fact 59 (f := .noat "Plan" "pages") rfl)
  n_Plan_length := He.noat_ok (c.fact 60 (f := .noat "Plan" "length") rfl)
  n_Plan_sizes := He.noat_ok (c.fact 61 (f := .noat "Plan" "sizes") rfl)
  d_own_shelves := (have z := c.def_ 0 (d := dd_own_shelves) rfl; z.elim fun fd F => ⟨_, fd, He.glo_ok X G (c.fact 62 (f := .glo "own_shelves") rfl), F⟩)
  d_rank := (have z := c.def_ 1 (d := dd_rank) rfl; z.elim fun fd F => ⟨_, fd, He.glo_ok X G (c.fact 63 (f := .glo "rank") rfl), F⟩)
  d_staying := (have z := c.def_ 2 (d := dd_staying) rfl; z.elim fun fd F => ⟨_, fd, He.glo_ok X G (c.fact 64 (f := .glo "staying") rfl), F⟩)
  d_moved := (have z := c.def_ 3 (d := dd_moved) rfl; z.elim fun fd F => ⟨_, fd, He.glo_ok X G (c.fact 65 (f := .glo "moved") rfl), F⟩)
  d_gathered := (have z := c.def_ 4 (d := dd_gathered) rfl; z.elim fun fd F => ⟨_, fd, He.glo_ok X G (c.fact 66 (f := .glo "gathered") rfl), F⟩)
  d_Shelf_init := (have z := c.def_ 5 (d := dd_Shelf_init) rfl; z.elim fun fd F => ⟨_, fd, He.mkr_ok (c.fact 67 (f := .mkr "Shelf") rfl), F⟩)
  d_Shelf_out := (have z := c.def_ 6 (d := dd_Shelf_out) rfl; z.elim fun fd F => ⟨_, fd, He.meth_ok (c.fact 68 (f := .meth "Shelf" "out") rfl), F⟩)
  d_Shelf_free := (have z := c.def_ 7 (d := dd_Shelf_free) rfl; z.elim fun fd F => ⟨_, fd, He.meth_ok (c.fact 69 (f := .meth "Shelf" "free") rfl), F⟩)
  d_Shelf_has_free := (have z := c.def_ 8 (d := dd_Shelf_has_free) rfl; z.elim fun fd F => ⟨_, fd, He.meth_ok (c.fact 70 (f := .meth "Shelf" "has_free") rfl), F⟩)
  d_Shelf_is_out := (have z := c.def_ 9 (d := dd_Shelf_is_out) rfl; z.elim fun fd F => ⟨_, fd, He.meth_ok (c.fact 71 (f := .meth "Shelf" "is_out") rfl), F⟩)
  d_Shelf_take := (have z := c.def_ 10 (d := dd_Shelf_take) rfl; z.elim fun fd F => ⟨_, fd, He.meth_ok (c.fact 72 (f := .meth "Shelf" "take") rfl), F⟩)
  d_Shelf_give := (have z := c.def_ 11 (d := dd_Shelf_give) rfl; z.elim fun fd F => ⟨_, fd, He.meth_ok (c.fact 73 (f := .meth "Shelf" "give") rfl), F⟩)
  d_Room_init := (have z := c.def_ 12 (d := dd_Room_init) rfl; z.elim fun fd F => ⟨_, fd, He.mkr_ok (c.fact 74 (f := .mkr "Room") rfl), F⟩)
  d_Room_place_of := (have z := c.def_ 13 (d := dd_Room_place_of) rfl; z.elim fun fd F => ⟨_, fd, He.meth_ok (c.fact 75 (f := .meth "Room" "place_of") rfl), F⟩)
  d_Room_empties := (have z := c.def_ 14 (d := dd_Room_empties) rfl; z.elim fun fd F => ⟨_, fd, He.meth_ok (c.fact 76 (f := .meth "Room" "empties") rfl), F⟩)
  d_Room_give_page := (have z := c.def_ 15 (d := dd_Room_give_page) rfl; z.elim fun fd F => ⟨_, fd, He.meth_ok (c.fact 77 (f := .meth "Room" "give_page") rfl), F⟩)
  d_Room_fresh_page := (have z := c.def_ 16 (d := dd_Room_fresh_page) rfl; z.elim fun fd F => ⟨_, fd, He.meth_ok (c.fact 78 (f := .meth "Room" "fresh_page") rfl), F⟩)
  d_Room_shelf_for := (have z := c.def_ 17 (d := dd_Room_shelf_for) rfl; z.elim fun fd F => ⟨_, fd, He.meth_ok (c.fact 79 (f := .meth "Room" "shelf_for") rfl), F⟩)
  d_Room_wish := (have z := c.def_ 18 (d := dd_Room_wish) rfl; z.elim fun fd F => ⟨_, fd, He.meth_ok (c.fact 80 (f := .meth "Room" "wish") rfl), F⟩)
  d_Room_found := (have z := c.def_ 19 (d := dd_Room_found) rfl; z.elim fun fd F => ⟨_, fd, He.meth_ok (c.fact 81 (f := .meth "Room" "found") rfl), F⟩)
  d_Room_give_back := (have z := c.def_ 20 (d := dd_Room_give_back) rfl; z.elim fun fd F => ⟨_, fd, He.meth_ok (c.fact 82 (f := .meth "Room" "give_back") rfl), F⟩)
  d_Room_trim := (have z := c.def_ 21 (d := dd_Room_trim) rfl; z.elim fun fd F => ⟨_, fd, He.meth_ok (c.fact 83 (f := .meth "Room" "trim") rfl), F⟩)
  d_Room_room_for := (have z := c.def_ 22 (d := dd_Room_room_for) rfl; z.elim fun fd F => ⟨_, fd, He.meth_ok (c.fact 84 (f := .meth "Room" "room_for") rfl), F⟩)
  d_Room_cell := (have z := c.def_ 23 (d := dd_Room_cell) rfl; z.elim fun fd F => ⟨_, fd, He.meth_ok (c.fact 85 (f := .meth "Room" "cell") rfl), F⟩)
  d_Room_read := (have z := c.def_ 24 (d := dd_Room_read) rfl; z.elim fun fd F => ⟨_, fd, He.meth_ok (c.fact 86 (f := .meth "Room" "read") rfl), F⟩)
  d_Room_write := (have z := c.def_ 25 (d := dd_Room_write) rfl; z.elim fun fd F => ⟨_, fd, He.meth_ok (c.fact 87 (f := .meth "Room" "write") rfl), F⟩)
  d_Room_gather := (have z := c.def_ 26 (d := dd_Room_gather) rfl; z.elim fun fd F => ⟨_, fd, He.meth_ok (c.fact 88 (f := .meth "Room" "gather") rfl), F⟩)
  d_Room_things := (have z := c.def_ 27 (d := dd_Room_things) rfl; z.elim fun fd F => ⟨_, fd, He.meth_ok (c.fact 89 (f := .meth "Room" "things") rfl), F⟩)
  d_Room_shelves := (have z := c.def_ 28 (d := dd_Room_shelves) rfl; z.elim fun fd F => ⟨_, fd, He.meth_ok (c.fact 90 (f := .meth "Room" "shelves") rfl), F⟩)
  d_Room_pile := (have z := c.def_ 29 (d := dd_Room_pile) rfl; z.elim fun fd F => ⟨_, fd, He.meth_ok (c.fact 91 (f := .meth "Room" "pile") rfl), F⟩)
  d_is_whole := (have z := c.def_ 30 (d := dd_is_whole) rfl; z.elim fun fd F => ⟨_, fd, He.glo_ok X G (c.fact 92 (f := .glo "is_whole") rfl), F⟩)
  d_Plan_init := (have z := c.def_ 31 (d := dd_Plan_init) rfl; z.elim fun fd F => ⟨_, fd, He.mkr_ok (c.fact 93 (f := .mkr "Plan") rfl), F⟩)
  d_Plan_size_for := (have z := c.def_ 32 (d := dd_Plan_size_for) rfl; z.elim fun fd F => ⟨_, fd, He.meth_ok (c.fact 94 (f := .meth "Plan" "size_for") rfl), F⟩)
  d_Plan_per := (have z := c.def_ 33 (d := dd_Plan_per) rfl; z.elim fun fd F => ⟨_, fd, He.meth_ok (c.fact 95 (f := .meth "Plan" "per") rfl), F⟩)
  d_law_cell_at := (have z := c.def_ 34 (d := dd_law_cell_at) rfl; z.elim fun fd F => ⟨_, fd, He.glo_ok X G (c.fact 96 (f := .glo "_law_cell_at") rfl), F⟩)
  d_law_whole := (have z := c.def_ 35 (d := dd_law_whole) rfl; z.elim fun fd F => ⟨_, fd, He.glo_ok X G (c.fact 97 (f := .glo "_law_whole") rfl), F⟩)
  d_law_sizes_by := (have z := c.def_ 36 (d := dd_law_sizes_by) rfl; z.elim fun fd F => ⟨_, fd, He.glo_ok X G (c.fact 98 (f := .glo "_law_sizes_by") rfl), F⟩)
  d_law_plan_by := (have z := c.def_ 37 (d := dd_law_plan_by) rfl; z.elim fun fd F => ⟨_, fd, He.glo_ok X G (c.fact 99 (f := .glo "_law_plan_by") rfl), F⟩)
  d_law_size_by := (have z := c.def_ 38 (d := dd_law_size_by) rfl; z.elim fun fd F => ⟨_, fd, He.glo_ok X G (c.fact 100 (f := .glo "_law_size_by") rfl), F⟩)
  d_law_fullest := (have z := c.def_ 39 (d := dd_law_fullest) rfl; z.elim fun fd F => ⟨_, fd, He.glo_ok X G (c.fact 101 (f := .glo "_law_fullest") rfl), F⟩)
  d_law_fresh := (have z := c.def_ 40 (d := dd_law_fresh) rfl; z.elim fun fd F => ⟨_, fd, He.glo_ok X G (c.fact 102 (f := .glo "_law_fresh") rfl), F⟩)
  d_law_wished := (have z := c.def_ 41 (d := dd_law_wished) rfl; z.elim fun fd F => ⟨_, fd, He.glo_ok X G (c.fact 103 (f := .glo "_law_wished") rfl), F⟩)
  d_law_places := (have z := c.def_ 42 (d := dd_law_places) rfl; z.elim fun fd F => ⟨_, fd, He.glo_ok X G (c.fact 104 (f := .glo "_law_places") rfl), F⟩)
  d_law_given := (have z := c.def_ 43 (d := dd_law_given) rfl; z.elim fun fd F => ⟨_, fd, He.glo_ok X G (c.fact 105 (f := .glo "_law_given") rfl), F⟩)
  d_law_gathered_by := (have z := c.def_ 44 (d := dd_law_gathered_by) rfl; z.elim fun fd F => ⟨_, fd, He.glo_ok X G (c.fact 106 (f := .glo "_law_gathered_by") rfl), F⟩)
  d_law_left := (have z := c.def_ 45 (d := dd_law_left) rfl; z.elim fun fd F => ⟨_, fd, He.glo_ok X G (c.fact 107 (f := .glo "_law_left") rfl), F⟩)
  d_law_told := (have z := c.def_ 46 (d := dd_law_told) rfl; z.elim fun fd F => ⟨_, fd, He.glo_ok X G (c.fact 108 (f := .glo "_law_told") rfl), F⟩)
  d_law_got := (have z := c.def_ 47 (d := dd_law_got) rfl; z.elim fun fd F => ⟨_, fd, He.glo_ok X G (c.fact 109 (f := .glo "_law_got") rfl), F⟩)
  d_law_deed := (have z := c.def_ 48 (d := dd_law_deed) rfl; z.elim fun fd F => ⟨_, fd, He.glo_ok X G (c.fact 110 (f := .glo "_law_deed") rfl), F⟩)
  d_law_stands := (have z := c.def_ 49 (d := dd_law_stands) rfl; z.elim fun fd F => ⟨_, fd, He.glo_ok X G (c.fact 111 (f := .glo "_law_stands") rfl), F⟩)
  d_law := (have z := c.def_ 50 (d := dd_law) rfl; z.elim fun fd F => ⟨_, fd, He.glo_ok X G (c.fact 112 (f := .glo "law") rfl), F⟩)
abbrev R : PySem.W.OpenRow := PySem.W.OpenLaw.row PySem.Challenge.rw_slabroom_k10_whole_every_deed
abbrev hk : PySem.W.Hook := hook2 4 fa fn fx
def ob (s : PySem.W.SharedT) : He.AlD × Bool := obs2G 4 fa fn fx (HandSHeadRun.getT s)
theorem ob_eq (s : PySem.W.SharedT) : ob s = hk.obs s.abs := obs2G_eq (HandSHeadRun.getT_eq s)
def names : List PySem.Str := (["RoomError", "BadPlan", "BadWish", "TooLarge", "NoSize", "NoRoom", "NotOut", "OutOfThing", "own_shelves", "rank", "staying", "moved", "gathered", "Shelf", "Room", "MOST_PAGES", "MOST_LENGTH", "MOST_SIZES", "is_whole", "Plan", "_law_cell_at", "_law_whole", "_law_sizes_by", "_law_plan_by", "_law_size_by", "_law_fullest", "_law_fresh", "_law_wished", "_law_places", "_law_given"] : List PySem.Str) ++ (["_law_gathered_by", "_law_left", "_law_told", "_law_got", "_law_deed", "_law_stands"] : List PySem.Str)
theorem run (w : World) : HandSHeadRun.RunEq R (PySem.W.view R.prog [42]) hk ob 8000 names w := by
  intro os
  kernel_rfl
end Sb
open PySem PySem.W PySem.Calls PyProof.Rows in
set_option maxRecDepth 100000 in
set_option maxHeartbeats 0 in
theorem PySem.Challenge.cw_slabroom_k10_whole_every_deed_holds : PySem.Challenge.rw_slabroom_k10_whole_every_deed.Holds := by
  w_on; o_law
  refine HandSHeadRun.head_any (r := OpenLaw.row PySem.Challenge.rw_slabroom_k10_whole_every_deed) (q := view (OpenLaw.row PySem.Challenge.rw_slabroom_k10_whole_every_deed).prog [42]) (H := Sb.hk) (ob := Sb.ob) (M := 8000) (loose := Sb.names) (d := HandSHeadRun.topDef (OpenLaw.row PySem.Challenge.rw_slabroom_k10_whole_every_deed).prog 42) (kwd := []) Sb.ob_eq
    (by kernel_rfl) (fun s => by kernel_rfl) Sb.run (by kernel_rfl) (by kernel_rfl) (by kernel_rfl) (by rfl) (by first | assumption | decide +kernel) (by decide +kernel) ⟨rfl, rfl, rfl, rfl, rfl, by decide +kernel⟩ ?hw ?hc
  case hw => w_witness2
  case hc =>
    refine L2.walk_ofE (l := PySem.Challenge.rw_slabroom_k10_whole_every_deed) (n := 63) (k := 9) (x := "_law_script") (CX := L2.CX0) rfl (by decide) (by kernel_rfl) ⟨rfl, by decide, by decide⟩ ?F (fun _ _ _ _ z => z)
    intro w mg fa h Y G hmg0
    obtain ⟨K, KX, c⟩ := Y
    have hmg : mg ("law" : PySem.Str) = some (.ref fa) := by
      have e : (HandSHeadRun.topDef (OpenLaw.row PySem.Challenge.rw_slabroom_k10_whole_every_deed).prog 42).name = ("law" : PySem.Str) := by kernel_rfl
      rw [← e]
      exact hmg0
    have T := Sb.facts KX G (congrArg Prod.fst c) (congrArg Prod.snd c)
    obtain ⟨f, fd, g, F⟩ := T.d_law
    have e := hmg.symm.trans g
    cases e
    refine ⟨K, fd, Sb.sp_law K _, KX, fun s u => L2.FunD.bindsA F Sb.bi_law s [u] rfl, fun H a ns hl _ hS => ⟨a, ns, rfl, hS, hl, fun _ => rfl⟩, fun base _ _ => Sb.ok_law T F⟩
#print axioms PySem.Challenge.cw_slabroom_k10_whole_every_deed_holds
