import PyProof.Rows.All
import Wide.All
import OpenK.AllK
import Wide.FinOn
import HandS.ForMost
import HandS.ForExc
import HandS.Defaults
import HandS.IsInst
import HandS.TryMany
import HandS.ExcIs
import HandS.SetFor
import HandS.Conv
import HandS.SortInts
import HandS.SortRule
import HandS.SortKw
import HandS.Deep
import HandS.More
import HandS.Evl
import HandS.Head0
import HandS.Head1
import HandS.Head2
import HandS.HeadEnd
import HandS.HeadHook1
import HandS.HeadHook2
import PySem.Challenge.RW_slabroom_k02_plans
set_option Elab.async false
set_option linter.all false
set_option maxRecDepth 100000
set_option maxHeartbeats 4000000
/-! The prelude of every claim of this seat: defs, methods, classes and errors of the text in one word each. -/
namespace Sb
open PySem PySem.Spec PyProof.Rows L2

abbrev FnP (K : PySem.W.Frag) (x qual : Str) (st : Stmt) (f : Addr) (fd : FuncData) : Prop :=
  L2.FunD K x qual (defArgs st) (defBody st) (defScope st) [] [] f fd
/-- st stands as the module's def x -/
def Dd (K : PySem.W.Frag) (mg : Str → Option Value) (x : Str) (st : Stmt) : Prop :=
  ∃ f fd, mg x = some (.ref f) ∧ FnP K x x st f fd
/-- st stands as the method m of the class at C -/
def Dm (K : PySem.W.Frag) (C : Addr) (m qual : Str) (st : Stmt) : Prop :=
  ∃ f fd, Meth K C m f ∧ FnP K m qual st f fd
/-- st is what makes the instances of the class at C -/
def Di (K : PySem.W.Frag) (C : Addr) (qual : Str) (st : Stmt) : Prop :=
  ∃ f fd, Mk K C f ∧ FnP K "__init__" qual st f fd

section
variable (P : Program) (w : World) (K : PySem.W.Frag) (mg : Str → Option Value) (base : Heap)
/-- the module's def x keeps the promise sp, by at most level k -/
def Df (k : Nat) (x : Str) (ps : List Str) (sp : Sp) : Prop :=
  ∃ f fd, mg x = some (.ref f) ∧ PySem.W.keepIn K (.ref f) = true ∧ FnOk P w K mg base (L2.CX P w) k f fd ps sp ∧ Binds K fd ps []
def Mf (k : Nat) (C : Addr) (m : Str) (ps : List Str) (sp : Sp) : Prop :=
  ∃ f fd, Meth K C m f ∧ FnOk P w K mg base (L2.CX P w) k f fd ps sp ∧ Binds K fd ps []
def If_ (k : Nat) (C : Addr) (ps : List Str) (sp : Sp) : Prop :=
  ∃ f fd, Mk K C f ∧ FnOk P w K mg base (L2.CX P w) k f fd ps sp ∧ Binds K fd ps []
end
/-- how the arguments bind to the parameters -/
def BindOk (ps : List Str) (x qual : Str) (st : Stmt) : Prop :=
  ∀ (kV doc pm : Value) (an : Option Addr) (cdv ct : Value) (us : List Value), us.length = ps.length →
    bindArgs (PySem.W.fnOf x qual (defArgs st) (defBody st) (defScope st) .none kV doc pm an cdv ct) ⟨us, []⟩ = pure (ps.zip us)
/-- what is to be shown of a def's body -/
def BodyOk (P : Program) (w : World) (K : PySem.W.Frag) (mg : Str → Option Value) (base : Heap) (k : Nat) (N : List Str) (qual : Str) (st : Stmt) (sp : Sp) : Prop :=
  ∀ (f : Addr) (cdv : Value) (A : Around) (outer : List Env) (s : Shared) (H : Hp) (vs : List V) (Q : VK) (E : XK),
    Room k (A.deeper (envOfC qual (defScope st) s.heap.objs.size f cdv)) → sp vs H Q E →
      ∃ t, PSs (cxOf (L2.CX P w) P w K mg base N qual (defScope st) f cdv A outer s H E) (defBody st) t ∧ t { nx := fun _ H' => Q .non H', rt := Q } (start N vs) H
section
variable {P : Program} {w : World} {K : PySem.W.Frag} {mg : Str → Option Value} {base : Heap} {x m qual : Str} {st : Stmt} {N ps : List Str} {k : Nat} {sp : Sp} {C : Addr}
theorem Dd.ok (D : Dd K mg x st) (S : FnScope N ps (defScope st)) (b : BindOk ps x x st) (len : ∀ vs H Q E, sp vs H Q E → vs.length = ps.length) (body : BodyOk P w K mg base k N x st sp) : Df P w K mg base (k + 1) x ps sp := by
  obtain ⟨f, fd, g, F⟩ := D
  exact ⟨f, fd, g, F.kp, L2.FunD.ok F S len (body f), L2.FunD.bindsN F b⟩
theorem Dm.ok (D : Dm K C m qual st) (S : FnScope N ps (defScope st)) (b : BindOk ps m qual st) (len : ∀ vs H Q E, sp vs H Q E → vs.length = ps.length) (body : BodyOk P w K mg base k N qual st sp) : Mf P w K mg base (k + 1) C m ps sp := by
  obtain ⟨f, fd, g, F⟩ := D
  exact ⟨f, fd, g, L2.FunD.ok F S len (body f), L2.FunD.bindsN F b⟩
theorem Di.ok (D : Di K C qual st) (S : FnScope N ps (defScope st)) (b : BindOk ps "__init__" qual st) (len : ∀ vs H Q E, sp vs H Q E → vs.length = ps.length) (body : BodyOk P w K mg base k N qual st sp) : If_ P w K mg base (k + 1) C ps sp := by
  obtain ⟨f, fd, g, F⟩ := D
  exact ⟨f, fd, g, L2.FunD.ok F S len (body f), L2.FunD.bindsN F b⟩
end

/-! ### calls -/
section
variable {X : Cx} {k j : Nat} {x m : Str} {ps : List Str} {sp : Sp} {C : Addr} {e o : Expr} {es : List Expr} {t : TA} {ta : TE} {p pos apos : Pos}
/-- f(e, ..), nothing let out -/
theorem pe_df (D : Df X.prog X.w X.K X.mg X.base k x ps sp) (hr : Room j X.A) (hk : k ≤ j) (hg : Gl X x) (ha : PA X (e :: es) t) (hdb : (x == ("__debug__" : Str)) = false := by decide)
    (he : starEach (e :: es) X.env = (false, eval e X.env) :: starEach es X.env := by rfl) (hpl : (backTo pos (starEach es X.env)).any (·.1) = false := by rfl) : PE X (.Call (.Name x p) (e :: es) [] pos) (tCall sp [] E0 t) := by
  obtain ⟨f, fd, g, kp, F, b⟩ := D
  exact pe_call F (hr.mono hk) hg g kp b .nil passL ha hdb he hpl
/-- f(e, ..) that may raise -/
theorem pe_dfS {W : WX} (D : Df X.prog X.w X.K X.mg X.base k x ps sp) (hr : Room j X.A) (hk : k ≤ j) (hg : Gl X x) (tk : Takes X W) (ha : PA X (e :: es) t) (hdb : (x == ("__debug__" : Str)) = false := by decide)
    (he : starEach (e :: es) X.env = (false, eval e X.env) :: starEach es X.env := by rfl) (hpl : (backTo pos (starEach es X.env)).any (·.1) = false := by rfl) : PE X (.Call (.Name x p) (e :: es) [] pos) (tCallS sp (WE W) t) := by
  obtain ⟨f, fd, g, kp, F, b⟩ := D
  exact pe_callS F (hr.mono hk) hg g kp b (fun σ => passAt tk σ) ha hdb he hpl
/-- o.m(e, ..), nothing let out -/
theorem pe_mf {pl : Sem Bool} (D : Mf X.prog X.w X.K X.mg X.base k C m ps sp) (c : Cls X.K C) (hr : Room j X.A) (hk : k ≤ j) (he : PE X o ta) (ha : PA X (e :: es) t)
    (hst : starEach (e :: es) X.env = (false, eval e X.env) :: starEach es X.env := by rfl) (hpl : (backTo pos (starEach es X.env)).any (·.1) = false := by rfl)
    (ht : eval (.Call (.Attribute o m apos) (e :: es) [] pos) X.env = (do let ov ← eval o X.env; standAt apos.atName; let (f, first) ← holding [ov] (getMethod ov m pl); callWith pos f first (backTo pos (starEach (e :: es) X.env)) (backToKw pos (keywordEach [] X.env))) := by rfl) :
    PE X (.Call (.Attribute o m apos) (e :: es) [] pos) (tMeth C m sp [] E0 ta t) := by
  obtain ⟨f, fd, g, F, b⟩ := D
  exact pe_meth he c g F (hr.mono hk) b .nil passL ha hst hpl ht
theorem pe_mf0 {pl : Sem Bool} (D : Mf X.prog X.w X.K X.mg X.base k C m ps sp) (c : Cls X.K C) (hr : Room j X.A) (hk : k ≤ j) (he : PE X o ta)
    (ht : eval (.Call (.Attribute o m apos) [] [] pos) X.env = (do let ov ← eval o X.env; standAt apos.atName; let (f, first) ← holding [ov] (getMethod ov m pl); callWith pos f first (backTo pos (starEach [] X.env)) (backToKw pos (keywordEach [] X.env))) := by rfl) :
    PE X (.Call (.Attribute o m apos) [] [] pos) (tMeth C m sp [] E0 ta tNil) := by
  obtain ⟨f, fd, g, F, b⟩ := D
  exact pe_meth0 he c g F (hr.mono hk) b .nil passL ht
/-- o.m(e, ..) that may raise -/
def tMethE (C : Addr) (m : Str) (sp : Sp) (E : L2.St → XK) (ta : TE) (t : TA) : TE := fun σ H Q =>
  ta σ H fun x H1 => ∃ a dx fs, x = .ref a ∧ H1 a = some (.ins C dx fs) ∧ fs.lookup m = none ∧ t σ H1 fun vs H2 => sp (x :: vs) H2 Q (E σ)
theorem pe_mfS {W : WX} {pl : Sem Bool} (D : Mf X.prog X.w X.K X.mg X.base k C m ps sp) (c : Cls X.K C) (hr : Room j X.A) (hk : k ≤ j) (tk : Takes X W) (he : PE X o ta) (ha : PA X (e :: es) t)
    (hst : starEach (e :: es) X.env = (false, eval e X.env) :: starEach es X.env := by rfl) (hpl : (backTo pos (starEach es X.env)).any (·.1) = false := by rfl)
    (ht : eval (.Call (.Attribute o m apos) (e :: es) [] pos) X.env = (do let ov ← eval o X.env; standAt apos.atName; let (f, first) ← holding [ov] (getMethod ov m pl); callWith pos f first (backTo pos (starEach (e :: es) X.env)) (backToKw pos (keywordEach [] X.env))) := by rfl) :
    PE X (.Call (.Attribute o m apos) (e :: es) [] pos) (tMethE C m sp (WE W) ta t) := by
  obtain ⟨f, fd, g, F, b⟩ := D
  constructor
  intro pins s σ H Q I h
  refine PySem.W.methodCall_KW (pl := pl) (thn (he.run pins s σ H _ I h) ?_) ht
  rintro u s1 ⟨x, H1, I1, rx, a, dx, fs, ex, ea, l, q⟩
  subst ex
  obtain rfl : u = Value.ref a := rx
  apply getmeth_ok I1 ea c g l
  refine PySem.W.callWith_K (first := [.ref a]) (h₀ := X.base) I.ok.mod.kin g.kp ?_ hst hpl
  refine thn (ha.run pos pins s1 σ H1 _ I1 q) ?_
  rintro us s2 ⟨vs, H2, I2, r, q2⟩
  refine ⟨I2.kIn, ?_⟩
  exact run_fnS (us := .ref a :: us) (vs := .ref a :: vs) F (hr.mono hk) b (fun pins H s e s' I c => tk e s' (XE.of_call I (fun _ _ _ h => h) c)) I2 (.cons rfl r) q2
theorem pe_mfS0 {W : WX} {pl : Sem Bool} (D : Mf X.prog X.w X.K X.mg X.base k C m ps sp) (c : Cls X.K C) (hr : Room j X.A) (hk : k ≤ j) (tk : Takes X W) (he : PE X o ta)
    (ht : eval (.Call (.Attribute o m apos) [] [] pos) X.env = (do let ov ← eval o X.env; standAt apos.atName; let (f, first) ← holding [ov] (getMethod ov m pl); callWith pos f first (backTo pos (starEach [] X.env)) (backToKw pos (keywordEach [] X.env))) := by rfl) :
    PE X (.Call (.Attribute o m apos) [] [] pos) (tMethE C m sp (WE W) ta tNil) := by
  obtain ⟨f, fd, g, F, b⟩ := D
  constructor
  intro pins s σ H Q I h
  refine PySem.W.methodCall_KW (pl := pl) (thn (he.run pins s σ H _ I h) ?_) ht
  rintro u s1 ⟨x, H1, I1, rx, a, dx, fs, ex, ea, l, q⟩
  subst ex
  obtain rfl : u = Value.ref a := rx
  apply getmeth_ok I1 ea c g l
  exact PySem.W.callWith_K0 (first := [.ref a]) I1.kIn g.kp (run_fnS (us := [.ref a]) (vs := [.ref a]) F (hr.mono hk) b (fun pins H s e s' I c => tk e s' (XE.of_call I (fun _ _ _ h => h) c)) I1 (.cons rfl .nil) q)
/-- C(e, ..), nothing let out -/
theorem pe_if (D : If_ X.prog X.w X.K X.mg X.base k C ps sp) (hm : X.mg x = some (.ref C)) (hr : Room j X.A) (hk : k + 1 ≤ j) (hg : Gl X x) (ha : PA X (e :: es) t) (hdb : (x == ("__debug__" : Str)) = false := by decide)
    (he : starEach (e :: es) X.env = (false, eval e X.env) :: starEach es X.env := by rfl) (hpl : (backTo pos (starEach es X.env)).any (·.1) = false := by rfl) : PE X (.Call (.Name x p) (e :: es) [] pos) (tMake C sp [] E0 t) := by
  obtain ⟨f, fd, g, F, b⟩ := D
  exact pe_make g F (hr.mono hk) hg hm b .nil passL ha hdb he hpl
end

/-! ### own errors -/
structure Ec (K : PySem.W.Frag) (mg : Str → Option Value) (x : Str) (C : Addr) : Prop where
  g : mg x = some (.ref C)
  x : PySem.W.excIn K C He.veBase "ValueError.__new__" = true
  k : PySem.W.keepIn K (.ref C) = true
  b : PySem.W.subIn K (.ref C) (.type "BaseException") = some true
  t : PySem.W.typeIn K (.ref C) = some (.type "type")
/-- raise X('m') -/
theorem ps_err {X : Cx} {x m : Str} {C : Addr} {j : Nat} {p p2 pos pos' : Pos} {W : WX} (hc : X.calm = true) (T : Ec X.K X.mg x C) (hg : Gl X x) (tk : Takes X W) (hdb : (x == ("__debug__" : Str)) = false := by decide) :
    PS X (.Raise (some (.Call (.Name x p) [.Constant (.str m) j p2] [] pos)) none pos') (fun _ σ H => W (.ref C) none σ H) :=
  ps_raise hc tk (pmk_own PySem.F.excBase_ValueError T.x T.g T.k (raises_own T.b T.t) hg hdb)

/-! ### small words of tests -/
theorem iteD {c : Prop} [Decidable c] {A B : Prop} (h1 : c → A) (h2 : ¬ c → B) : if decide c = true then A else B := by
  by_cases h : c
  · rw [decide_eq_true h]; exact iteT (h1 h)
  · rw [decide_eq_false h]; exact iteF (h2 h)
theorem iteND {c : Prop} [Decidable c] {A B : Prop} (h1 : ¬ c → A) (h2 : c → B) : if (!decide c) = true then A else B := by
  by_cases h : c
  · rw [decide_eq_true h]; exact iteF (h2 h)
  · rw [decide_eq_false h]; exact iteT (h1 h)
theorem iteB {b : Bool} {A B : Prop} (h1 : b = true → A) (h2 : b = false → B) : if b = true then A else B := by
  cases b
  · exact iteF (h2 rfl)
  · exact iteT (h1 rfl)
theorem iteNB {b : Bool} {A B : Prop} (h1 : b = false → A) (h2 : b = true → B) : if (!b) = true then A else B := by
  cases b
  · exact iteT (h1 rfl)
  · exact iteF (h2 rfl)
theorem ixN_at {n j : Nat} (h : j < n) : ixN n (j : Int) = some j := by
  unfold ixN
  rw [if_pos (Int.natCast_nonneg j), if_pos (Int.ofNat_lt.mpr h), Int.toNat_natCast]
/-! ### data -/
structure Shp (d : PyData) (n : Nat) : Prop where
  lay : d.canLay0 = true
  dep : d.depth ≤ n
theorem Shp.int (i : Int) : Shp (.int i) 0 := ⟨rfl, by simp [PyData.depth]⟩
theorem Shp.bool (b : Bool) : Shp (.bool b) 0 := ⟨rfl, by simp [PyData.depth]⟩
theorem canAll : ∀ {ds : List PyData} {n : Nat}, (∀ d ∈ ds, Shp d n) → PyData.canLayAll0 ds = true ∧ PyData.depthAll ds ≤ n
  | [], _, _ => ⟨rfl, by simp [PyData.depthAll]⟩
  | d :: ds, n, h => by
    have h1 := h d List.mem_cons_self
    have h2 := canAll (ds := ds) (n := n) fun x hx => h x (List.mem_cons_of_mem _ hx)
    refine ⟨?_, ?_⟩
    · show (d.canLay0 && PyData.canLayAll0 ds) = true
      rw [h1.lay, h2.1]; rfl
    · simp only [PyData.depthAll]
      have := h1.dep
      have := h2.2
      omega
theorem Shp.list {ds : List PyData} {n : Nat} (h : ∀ d ∈ ds, Shp d n) : Shp (.list ds) (n + 1) := ⟨(canAll h).1, by simp only [PyData.depth]; have := (canAll h).2; omega⟩
theorem Shp.tuple {ds : List PyData} {n : Nat} (h : ∀ d ∈ ds, Shp d n) : Shp (.tuple ds) (n + 1) := ⟨(canAll h).1, by simp only [PyData.depth]; have := (canAll h).2; omega⟩
theorem Shp.shaped {d : PyData} {n : Nat} (h : Shp d n) (hn : n ≤ 64) : SeqAt.shaped d = true := by
  unfold SeqAt.shaped
  rw [h.lay, decide_eq_true (Nat.le_trans h.dep hn)]; rfl
theorem Shp.refl {d : PyData} {n : Nat} (h : Shp d n) : PyData.eqv d d = true := SeqAt.eqv_refl d h.lay
theorem dpAll_map {K : PySem.W.Frag} {H : Hp} {α : Type} (f : α → V) (g : α → PyData) : ∀ {l : List α}, (∀ x ∈ l, Dp K H (f x) (g x)) → DpAll K H (l.map f) (l.map g)
  | [], _ => .nil
  | x :: l, h => .cons (h x List.mem_cons_self) (dpAll_map f g fun y hy => h y (List.mem_cons_of_mem _ hy))
/-- a list of whole numbers as data -/
abbrev dInts (l : List Int) : PyData := .list (l.map .int)
theorem dp_ints {K : PySem.W.Frag} {H : Hp} {a : Addr} {l : List Int} (h : SqL K H a (l.map V.int)) : Dp K H (.ref a) (dInts l) := .lst h (dpAll_map V.int .int fun x _ => .int x)
theorem sh_ints (l : List Int) : Shp (dInts l) 1 := .list fun d hd => by
  obtain ⟨i, _, rfl⟩ := List.mem_map.mp hd
  exact .int i
/-- what is free behind the making of an instance was free ahead of it -/
theorem made_free {H : Hp} {x dx C t : Addr} (nx : H x = none) (nd : H dx = none) (ht : (upd (upd H dx (.own x)) x (.ins C dx [])) t = none) : H t = none := by
  cases q : H t with
  | none => rfl
  | some o =>
    rw [upd_ne (ne_of_none q nx), upd_ne (ne_of_none q nd), q] at ht
    cases ht
/-- a module's whole number -/
theorem pe_kint {X : Cx} {x : Str} {p : Pos} {i : Int} (hg : Gl X x) (hm : ∃ t, X.mg x = some (.int i t)) (hdb : (x == ("__debug__" : Str)) = false := by decide) : PE X (.Name x p) (tC (.int i)) := by
  obtain ⟨t, h⟩ := hm
  exact pe_glob hg h ⟨_, rfl⟩ hdb
/-- C(e, ..) that may raise -/
def tMakeE (C : Addr) (sp : Sp) (E : L2.St → XK) (t : TA) : TE := fun σ H Q => t σ H fun vs H1 =>
  ∀ x dx, H1 x = none → H1 dx = none → dx ≠ x → sp (.ref x :: vs) (upd (upd H1 dx (.own x)) x (.ins C dx [])) (fun v H2 => v = .non ∧ Q (.ref x) H2) (E σ)
theorem pe_ifS {X : Cx} {k j : Nat} {x : Str} {ps : List Str} {sp : Sp} {C : Addr} {e : Expr} {es : List Expr} {t : TA} {p pos : Pos} {W : WX} (D : If_ X.prog X.w X.K X.mg X.base k C ps sp) (hm : X.mg x = some (.ref C)) (hr : Room j X.A) (hk : k + 1 ≤ j) (hg : Gl X x) (tk : Takes X W) (ha : PA X (e :: es) t)
    (hdb : (x == ("__debug__" : Str)) = false := by decide)
    (he : starEach (e :: es) X.env = (false, eval e X.env) :: starEach es X.env := by rfl) (hpl : (backTo pos (starEach es X.env)).any (·.1) = false := by rfl) : PE X (.Call (.Name x p) (e :: es) [] pos) (tMakeE C sp (WE W) t) := by
  obtain ⟨f, fd, M, F, hb⟩ := D
  constructor
  intro pins s σ H Q I h
  refine wpAny_Call_Name_kw (ld_glob I hg hm ?_ hdb)
  refine PySem.W.callWith_K (h₀ := X.base) I.ok.mod.kin M.kp ?_ he hpl
  refine thn (ha.run pos pins s σ H _ I h) ?_
  rintro us s1 ⟨vs, H1, I1, r, q⟩
  refine ⟨I1.kIn, ?_⟩
  let a := s1.heap.objs.size
  have hq := q (a + 1) a (I1.hok.fresh (Nat.le_succ _)) (I1.hok.fresh (Nat.le_refl _)) (Nat.ne_of_lt (Nat.lt_succ_self _))
  have I2 := Inv.made (C := C) I1
  have r2 : Vals (V.ref (a + 1) :: vs) (Value.ref (a + 1) :: us) := .cons rfl r
  have hl : (Value.ref (a + 1) :: us ++ []).length = ps.length := by
    rw [List.append_nil, ← r2.length]
    exact F.len _ _ _ _ hq
  have bd := hb _ (Value.ref (a + 1) :: us) I2.kIn hl
  rw [List.append_nil] at bd
  have run := F.run _ X.stack _ _ ⟨Value.ref (a + 1) :: us, []⟩ _ _ _ (WE W σ) ((hr.mono hk).make C us []) (I2.env0.make C us []) bd r2 hq
  refine wpAny_call (make_map (f := f) I1.kIn M.makes M.init (beq_iff_eq.mp M.fn) (codeAny_mono run ?_))
  rintro (e | fl) s' hq'
  · exact tk e s' (XE.of_call I2 (fun _ _ _ h => h) hq')
  · cases fl with
    | ret u =>
      obtain ⟨v, H', I3, rv, ev, q3⟩ := I2.after hq'
      subst ev
      exact ⟨rv, V.ref (a + 1), H', I3, rfl, q3⟩
    | _ => exact hq'.elim
/-- a field's reading -/
abbrev RFld (K : PySem.W.Frag) (p : Addr) (f : Str) (H : Hp) (Q : V → Prop) : Prop :=
  ∃ a C dx fs v, V.ref p = .ref a ∧ H a = some (.ins C dx fs) ∧ Cls K C ∧ NoAttr K C f ∧ fs.lookup f = some v ∧ Q v
/-! ### the head's facts, and further ones -/
abbrev Fx := List (PySem.W.Frag → Bool)
def obs2 (fa : List He.Fa) (fn : List He.DefD) (fx : Fx) (K : PySem.W.Frag) : He.AlD × Bool := (He.obsD fa fn K, fx.all fun f => f K)
def obs2G (n : Nat) (fa : List He.Fa) (fn : List He.DefD) (fx : Fx) (g : Addr → Option Obj) : He.AlD × Bool := obs2 fa fn fx (He.frG g (He.asD g n))
def hook2 (n : Nat) (fa : List He.Fa) (fn : List He.DefD) (fx : Fx) : PySem.W.Hook where
  α := He.AlD × Bool
  obs s := obs2G n fa fn fx s.heap.get?
  val _ := (He.valD fn, true)
  says _ h := ∃ K : PySem.W.Frag, K.In h ∧ obs2 fa fn fx K = (He.valD fn, true)
  of _ _ e := ⟨_, He.frG_in, e⟩
  keeps _ _ _ := fun ⟨K, hK, c⟩ k => ⟨K, PySem.W.Frag.In.keeps hK k, c⟩
theorem obs2G_eq {n : Nat} {fa : List He.Fa} {fn : List He.DefD} {fx : Fx} {g : Addr → Option Obj} {s : Shared} (h : ∀ a, g a = s.heap.get? a) : obs2G n fa fn fx g = (hook2 n fa fn fx).obs s := by
  obtain rfl : g = s.heap.get? := funext h
  rfl
theorem fx_at {fx : Fx} {K : PySem.W.Frag} (h : (fx.all fun f => f K) = true) (i : Nat) {f : PySem.W.Frag → Bool} (hf : fx[i]? = some f) : f K = true := List.all_eq_true.mp h f (List.mem_of_getElem? hf)
/-- what isinstance tells of an error of the class x -/
def kitF (x y : Str) (b : Bool) (K : PySem.W.Frag) : Bool := decide (PySem.W.kitOne K (.ref (He.ga K x)) (.ref (He.ga K y)) = some b)
def kitV (x : Str) (y : String) (b : Bool) (K : PySem.W.Frag) : Bool := decide (PySem.W.kitOne K (.ref (He.ga K x)) (.type y) = some b)
def excF (x : Str) (K : PySem.W.Frag) : Bool :=
  (decide (PySem.W.findIn K (.ref (He.ga K x)) "__getattribute__" = some (some (.builtin "BaseException.__getattribute__"))) &&
  decide (PySem.W.findIn K (.ref (He.ga K x)) "__getattr__" = some none) && decide (PySem.W.subIn K (.ref (He.ga K x)) (.type "BaseException") = some true) && PySem.W.hasDictIn K (He.ga K x)) &&
  (decide (PySem.W.findIn K (.ref (He.ga K x)) "__class__" = some (some (.builtin "object.__class__"))) &&
  decide (PySem.W.specialIn K (.builtin "object.__class__") "__get__" = some (some (.builtin "getset_descriptor.__get__"))) &&
  decide (PySem.W.takesIn K (.builtin "object.__class__") = some true) && decide (PySem.W.mroIn K (He.ga K x) (.type "object") = some true))
theorem kitF_ok {x y : Str} {b : Bool} {K : PySem.W.Frag} (h : kitF x y b K = true) : PySem.W.kitOne K (.ref (He.ga K x)) (.ref (He.ga K y)) = some b := of_decide_eq_true h
theorem kitV_ok {x : Str} {y : String} {b : Bool} {K : PySem.W.Frag} (h : kitV x y b K = true) : PySem.W.kitOne K (.ref (He.ga K x)) (.type y) = some b := of_decide_eq_true h
theorem excF_ok {x : Str} {K : PySem.W.Frag} (h : excF x K = true) : ExcC K (He.ga K x) := by
  unfold excF at h
  simp only [Bool.and_eq_true, decide_eq_true_eq] at h
  obtain ⟨⟨⟨⟨h1, h2⟩, h3⟩, h4⟩, ⟨⟨h5, h6⟩, h7⟩, h8⟩ := h
  exact ⟨h1, h2, h3, h4, h5, h6, h7, h8⟩
/-- a suite's reading, for each of the errors that may come -/
theorem pss_ex {X : Cx} {sts : List Stmt} {α : Type} {R : α → Prop} {t : α → TS} (h : ∀ x, R x → PSs X sts (t x)) : PSs X sts (fun D σ H => ∃ x, R x ∧ t x D σ H) := by
  constructor
  rintro pins s σ H D I ⟨x, hx, ht⟩
  exact (h x hx).run pins s σ H D I ht
theorem zc_of {cls : Value} {d : Option Addr} {oe : Obj} {D : Addr} (h : Zc cls d oe) (e1 : cls = .ref D) (e2 : d = none) : Zc (.ref D) none oe := by
  subst e1 e2
  exact h
end Sb
namespace Sb
open PySem PySem.Spec PyProof.Rows L2
def top (i : Nat) : Stmt := PySem.Challenge.pw_slabroom_k02_plans.main.body.getD i (.Pass ⟨0, 0, 0, 0⟩)
abbrev s_is_whole : Stmt := top 14
theorem sc_is_whole : FnScope ["thing", "least", "most"] ["thing", "least", "most"] (defScope s_is_whole) := ⟨rfl, rfl, rfl, by decide +kernel, rfl, by decide +kernel, by decide +kernel⟩
theorem bi_is_whole : BindOk ["thing", "least", "most"] "is_whole" "is_whole" s_is_whole := fun _ _ _ _ _ _ us hl => match us, hl with | [_, _, _], _ => rfl
abbrev s_Plan_init : Stmt := inClass (top 15) 0
theorem sc_Plan_init : FnScope ["self", "pages", "length", "sizes", "before", "size"] ["self", "pages", "length", "sizes"] (defScope s_Plan_init) := ⟨rfl, rfl, rfl, by decide +kernel, rfl, by decide +kernel, by decide +kernel⟩
theorem bi_Plan_init : BindOk ["self", "pages", "length", "sizes"] "__init__" "Plan.__init__" s_Plan_init := fun _ _ _ _ _ _ us hl => match us, hl with | [_, _, _, _], _ => rfl
abbrev s_law_cell_at : Stmt := top 17
theorem sc_law_cell_at : FnScope ["_law_script", "_law_k"] ["_law_script", "_law_k"] (defScope s_law_cell_at) := ⟨rfl, rfl, rfl, by decide +kernel, rfl, by decide +kernel, by decide +kernel⟩
theorem bi_law_cell_at : BindOk ["_law_script", "_law_k"] "_law_cell_at" "_law_cell_at" s_law_cell_at := fun _ _ _ _ _ _ us hl => match us, hl with | [_, _], _ => rfl
abbrev s_law_whole : Stmt := top 18
theorem sc_law_whole : FnScope ["_law_found"] ["_law_found"] (defScope s_law_whole) := ⟨rfl, rfl, rfl, by decide +kernel, rfl, by decide +kernel, by decide +kernel⟩
theorem bi_law_whole : BindOk ["_law_found"] "_law_whole" "_law_whole" s_law_whole := fun _ _ _ _ _ _ us hl => match us, hl with | [_], _ => rfl
abbrev s_law_sizes_by : Stmt := top 19
theorem sc_law_sizes_by : FnScope ["_law_cell", "_law_length", "_law_many", "_law_found", "_law_before", "_law_rest", "_law_span", "_law_turn"] ["_law_cell", "_law_length", "_law_many"] (defScope s_law_sizes_by) := ⟨rfl, rfl, rfl, by decide +kernel, rfl, by decide +kernel, by decide +kernel⟩
theorem bi_law_sizes_by : BindOk ["_law_cell", "_law_length", "_law_many"] "_law_sizes_by" "_law_sizes_by" s_law_sizes_by := fun _ _ _ _ _ _ us hl => match us, hl with | [_, _, _], _ => rfl
abbrev s_law_refused : Stmt := top 20
theorem sc_law_refused : FnScope ["_law_pages", "_law_length", "_law_sizes", "_law_way", "e"] ["_law_pages", "_law_length", "_law_sizes", "_law_way"] (defScope s_law_refused) := ⟨rfl, rfl, rfl, by decide +kernel, rfl, by decide +kernel, by decide +kernel⟩
theorem bi_law_refused : BindOk ["_law_pages", "_law_length", "_law_sizes", "_law_way"] "_law_refused" "_law_refused" s_law_refused := fun _ _ _ _ _ _ us hl => match us, hl with | [_, _, _, _], _ => rfl
abbrev s_law_bad_sizes : Stmt := top 21
theorem sc_law_bad_sizes : FnScope ["_law_sizes", "_law_length", "_law_cell", "_law_at", "_law_before", "_law_wrong_here"] ["_law_sizes", "_law_length", "_law_cell"] (defScope s_law_bad_sizes) := ⟨rfl, rfl, rfl, by decide +kernel, rfl, by decide +kernel, by decide +kernel⟩
theorem bi_law_bad_sizes : BindOk ["_law_sizes", "_law_length", "_law_cell"] "_law_bad_sizes" "_law_bad_sizes" s_law_bad_sizes := fun _ _ _ _ _ _ us hl => match us, hl with | [_, _, _], _ => rfl
abbrev s_law_wrong : Stmt := top 22
theorem sc_law_wrong : FnScope ["_law_pages", "_law_length", "_law_sizes", "_law_cell", "_law_more"] ["_law_pages", "_law_length", "_law_sizes", "_law_cell"] (defScope s_law_wrong) := ⟨rfl, rfl, rfl, by decide +kernel, rfl, by decide +kernel, by decide +kernel⟩
theorem bi_law_wrong : BindOk ["_law_pages", "_law_length", "_law_sizes", "_law_cell"] "_law_wrong" "_law_wrong" s_law_wrong := fun _ _ _ _ _ _ us hl => match us, hl with | [_, _, _, _], _ => rfl
abbrev s_law : Stmt := top 23
theorem sc_law : FnScope ["_law_script", "_law_pages", "_law_length", "_law_sizes", "_law_kind", "_law_wrong_here", "_law_handed", "_law_plan"] ["_law_script"] (defScope s_law) := ⟨rfl, rfl, rfl, by decide +kernel, rfl, by decide +kernel, by decide +kernel⟩
theorem bi_law : BindOk ["_law_script"] "law" "law" s_law := fun _ _ _ _ _ _ us hl => match us, hl with | [_], _ => rfl
structure Ad where
  Plan : Addr
  RoomError : Addr
  BadPlan : Addr
  BadWish : Addr
  TooLarge : Addr
  NoSize : Addr
  NoRoom : Addr
  NotOut : Addr
  OutOfThing : Addr
structure Tx (K : PySem.W.Frag) (mg : Str → Option Value) (A : Ad) : Prop where
  z_ValueError : mg "ValueError" = none
  z_bool : mg "bool" = none
  z_int : mg "int" = none
  z_isinstance : mg "isinstance" = none
  z_len : mg "len" = none
  z_list : mg "list" = none
  z_range : mg "range" = none
  z_tuple : mg "tuple" = none
  k_MOST_PAGES : ∃ t, mg "MOST_PAGES" = some (.int 40 t)
  k_MOST_LENGTH : ∃ t, mg "MOST_LENGTH" = some (.int 60 t)
  k_MOST_SIZES : ∃ t, mg "MOST_SIZES" = some (.int 8 t)
  e_RoomError : Ec K mg "RoomError" A.RoomError
  e_BadPlan : Ec K mg "BadPlan" A.BadPlan
  e_BadWish : Ec K mg "BadWish" A.BadWish
  e_TooLarge : Ec K mg "TooLarge" A.TooLarge
  e_NoSize : Ec K mg "NoSize" A.NoSize
  e_NoRoom : Ec K mg "NoRoom" A.NoRoom
  e_NotOut : Ec K mg "NotOut" A.NotOut
  e_OutOfThing : Ec K mg "OutOfThing" A.OutOfThing
  x_BadPlan_RoomError : PySem.W.exmOne K (.ref A.BadPlan) (.ref A.RoomError) = some true
  x_BadPlan_BadPlan : PySem.W.exmOne K (.ref A.BadPlan) (.ref A.BadPlan) = some true
  x_BadWish_RoomError : PySem.W.exmOne K (.ref A.BadWish) (.ref A.RoomError) = some true
  x_BadWish_BadPlan : PySem.W.exmOne K (.ref A.BadWish) (.ref A.BadPlan) = some false
  x_TooLarge_RoomError : PySem.W.exmOne K (.ref A.TooLarge) (.ref A.RoomError) = some true
  x_TooLarge_BadPlan : PySem.W.exmOne K (.ref A.TooLarge) (.ref A.BadPlan) = some false
  x_NoSize_RoomError : PySem.W.exmOne K (.ref A.NoSize) (.ref A.RoomError) = some true
  x_NoSize_BadPlan : PySem.W.exmOne K (.ref A.NoSize) (.ref A.BadPlan) = some false
  x_NoRoom_RoomError : PySem.W.exmOne K (.ref A.NoRoom) (.ref A.RoomError) = some true
  x_NoRoom_BadPlan : PySem.W.exmOne K (.ref A.NoRoom) (.ref A.BadPlan) = some false
  x_NotOut_RoomError : PySem.W.exmOne K (.ref A.NotOut) (.ref A.RoomError) = some true
  x_NotOut_BadPlan : PySem.W.exmOne K (.ref A.NotOut) (.ref A.BadPlan) = some false
  x_OutOfThing_RoomError : PySem.W.exmOne K (.ref A.OutOfThing) (.ref A.RoomError) = some true
  x_OutOfThing_BadPlan : PySem.W.exmOne K (.ref A.OutOfThing) (.ref A.BadPlan) = some false
  xc_BadPlan : ExcC K A.BadPlan
  kt_BadPlan_BadWish : PySem.W.kitOne K (.ref A.BadPlan) (.ref A.BadWish) = some false
  kt_BadPlan_TooLarge : PySem.W.kitOne K (.ref A.BadPlan) (.ref A.TooLarge) = some false
  kt_BadPlan_NoRoom : PySem.W.kitOne K (.ref A.BadPlan) (.ref A.NoRoom) = some false
  kt_BadPlan_NotOut : PySem.W.kitOne K (.ref A.BadPlan) (.ref A.NotOut) = some false
  kt_BadPlan_OutOfThing : PySem.W.kitOne K (.ref A.BadPlan) (.ref A.OutOfThing) = some false
  kt_BadPlan_NoSize : PySem.W.kitOne K (.ref A.BadPlan) (.ref A.NoSize) = some false
  kt_BadPlan_ValueError : PySem.W.kitOne K (.ref A.BadPlan) (.type "ValueError") = some true
  kt_BadPlan_BadPlan : PySem.W.kitOne K (.ref A.BadPlan) (.ref A.BadPlan) = some true
  xc_BadWish : ExcC K A.BadWish
  kt_BadWish_BadWish : PySem.W.kitOne K (.ref A.BadWish) (.ref A.BadWish) = some true
  kt_BadWish_TooLarge : PySem.W.kitOne K (.ref A.BadWish) (.ref A.TooLarge) = some false
  kt_BadWish_NoRoom : PySem.W.kitOne K (.ref A.BadWish) (.ref A.NoRoom) = some false
  kt_BadWish_NotOut : PySem.W.kitOne K (.ref A.BadWish) (.ref A.NotOut) = some false
  kt_BadWish_OutOfThing : PySem.W.kitOne K (.ref A.BadWish) (.ref A.OutOfThing) = some false
  kt_BadWish_NoSize : PySem.W.kitOne K (.ref A.BadWish) (.ref A.NoSize) = some false
  kt_BadWish_ValueError : PySem.W.kitOne K (.ref A.BadWish) (.type "ValueError") = some true
  kt_BadWish_BadPlan : PySem.W.kitOne K (.ref A.BadWish) (.ref A.BadPlan) = some false
  xc_TooLarge : ExcC K A.TooLarge
  kt_TooLarge_BadWish : PySem.W.kitOne K (.ref A.TooLarge) (.ref A.BadWish) = some false
  kt_TooLarge_TooLarge : PySem.W.kitOne K (.ref A.TooLarge) (.ref A.TooLarge) = some true
  kt_TooLarge_NoRoom : PySem.W.kitOne K (.ref A.TooLarge) (.ref A.NoRoom) = some false
  kt_TooLarge_NotOut : PySem.W.kitOne K (.ref A.TooLarge) (.ref A.NotOut) = some false
  kt_TooLarge_OutOfThing : PySem.W.kitOne K (.ref A.TooLarge) (.ref A.OutOfThing) = some false
  kt_TooLarge_NoSize : PySem.W.kitOne K (.ref A.TooLarge) (.ref A.NoSize) = some false
  kt_TooLarge_ValueError : PySem.W.kitOne K (.ref A.TooLarge) (.type "ValueError") = some true
  kt_TooLarge_BadPlan : PySem.W.kitOne K (.ref A.TooLarge) (.ref A.BadPlan) = some false
  xc_NoSize : ExcC K A.NoSize
  kt_NoSize_BadWish : PySem.W.kitOne K (.ref A.NoSize) (.ref A.BadWish) = some false
  kt_NoSize_TooLarge : PySem.W.kitOne K (.ref A.NoSize) (.ref A.TooLarge) = some false
  kt_NoSize_NoRoom : PySem.W.kitOne K (.ref A.NoSize) (.ref A.NoRoom) = some false
  kt_NoSize_NotOut : PySem.W.kitOne K (.ref A.NoSize) (.ref A.NotOut) = some false
  kt_NoSize_OutOfThing : PySem.W.kitOne K (.ref A.NoSize) (.ref A.OutOfThing) = some false
  kt_NoSize_NoSize : PySem.W.kitOne K (.ref A.NoSize) (.ref A.NoSize) = some true
  kt_NoSize_ValueError : PySem.W.kitOne K (.ref A.NoSize) (.type "ValueError") = some true
  kt_NoSize_BadPlan : PySem.W.kitOne K (.ref A.NoSize) (.ref A.BadPlan) = some false
  xc_NoRoom : ExcC K A.NoRoom
  kt_NoRoom_BadWish : PySem.W.kitOne K (.ref A.NoRoom) (.ref A.BadWish) = some false
  kt_NoRoom_TooLarge : PySem.W.kitOne K (.ref A.NoRoom) (.ref A.TooLarge) = some false
  kt_NoRoom_NoRoom : PySem.W.kitOne K (.ref A.NoRoom) (.ref A.NoRoom) = some true
  kt_NoRoom_NotOut : PySem.W.kitOne K (.ref A.NoRoom) (.ref A.NotOut) = some false
  kt_NoRoom_OutOfThing : PySem.W.kitOne K (.ref A.NoRoom) (.ref A.OutOfThing) = some false
  kt_NoRoom_NoSize : PySem.W.kitOne K (.ref A.NoRoom) (.ref A.NoSize) = some false
  kt_NoRoom_ValueError : PySem.W.kitOne K (.ref A.NoRoom) (.type "ValueError") = some true
  kt_NoRoom_BadPlan : PySem.W.kitOne K (.ref A.NoRoom) (.ref A.BadPlan) = some false
  xc_NotOut : ExcC K A.NotOut
  kt_NotOut_BadWish : PySem.W.kitOne K (.ref A.NotOut) (.ref A.BadWish) = some false
  kt_NotOut_TooLarge : PySem.W.kitOne K (.ref A.NotOut) (.ref A.TooLarge) = some false
  kt_NotOut_NoRoom : PySem.W.kitOne K (.ref A.NotOut) (.ref A.NoRoom) = some false
  kt_NotOut_NotOut : PySem.W.kitOne K (.ref A.NotOut) (.ref A.NotOut) = some true
  kt_NotOut_OutOfThing : PySem.W.kitOne K (.ref A.NotOut) (.ref A.OutOfThing) = some false
  kt_NotOut_NoSize : PySem.W.kitOne K (.ref A.NotOut) (.ref A.NoSize) = some false
  kt_NotOut_ValueError : PySem.W.kitOne K (.ref A.NotOut) (.type "ValueError") = some true
  kt_NotOut_BadPlan : PySem.W.kitOne K (.ref A.NotOut) (.ref A.BadPlan) = some false
  xc_OutOfThing : ExcC K A.OutOfThing
  kt_OutOfThing_BadWish : PySem.W.kitOne K (.ref A.OutOfThing) (.ref A.BadWish) = some false
  kt_OutOfThing_TooLarge : PySem.W.kitOne K (.ref A.OutOfThing) (.ref A.TooLarge) = some false
  kt_OutOfThing_NoRoom : PySem.W.kitOne K (.ref A.OutOfThing) (.ref A.NoRoom) = some false
  kt_OutOfThing_NotOut : PySem.W.kitOne K (.ref A.OutOfThing) (.ref A.NotOut) = some false
  kt_OutOfThing_OutOfThing : PySem.W.kitOne K (.ref A.OutOfThing) (.ref A.OutOfThing) = some true
  kt_OutOfThing_NoSize : PySem.W.kitOne K (.ref A.OutOfThing) (.ref A.NoSize) = some false
  kt_OutOfThing_ValueError : PySem.W.kitOne K (.ref A.OutOfThing) (.type "ValueError") = some true
  kt_OutOfThing_BadPlan : PySem.W.kitOne K (.ref A.OutOfThing) (.ref A.BadPlan) = some false
  c_Plan : Cls K A.Plan
  g_Plan : mg "Plan" = some (.ref A.Plan)
  n_Plan_pages : NoAttr K A.Plan "pages"
  n_Plan_length : NoAttr K A.Plan "length"
  n_Plan_sizes : NoAttr K A.Plan "sizes"
  d_is_whole : Dd K mg "is_whole" s_is_whole
  d_Plan_init : Di K A.Plan "Plan.__init__" s_Plan_init
  d_law_cell_at : Dd K mg "_law_cell_at" s_law_cell_at
  d_law_whole : Dd K mg "_law_whole" s_law_whole
  d_law_sizes_by : Dd K mg "_law_sizes_by" s_law_sizes_by
  d_law_refused : Dd K mg "_law_refused" s_law_refused
  d_law_bad_sizes : Dd K mg "_law_bad_sizes" s_law_bad_sizes
  d_law_wrong : Dd K mg "_law_wrong" s_law_wrong
  d_law : Dd K mg "law" s_law
end Sb
namespace Sb
open PySem PySem.Spec PyProof.Rows L2
def cellAt (ns : List Int) (k : Nat) : Int := ns.getD k 0
def sp_law_cell_at (K : PySem.W.Frag) (A : Ad) : Sp := fun vs H Q _ => ∃ (a : Addr) (ns : List Int) (k : Nat), vs = [.ref a, .int k] ∧ SqL K H a (ns.map V.int) ∧ Q (.int (cellAt ns k)) H
section
variable {P : Program} {w : World} {K : PySem.W.Frag} {mg : Str → Option Value} {base : Heap} {A : Ad}
theorem ok_law_cell_at (T : Tx K mg A) : Df P w K mg base 1 "_law_cell_at" ["_law_script", "_law_k"] (sp_law_cell_at K A) := by
  refine Dd.ok T.d_law_cell_at sc_law_cell_at bi_law_cell_at (fun vs H Q E h => ?_) (fun f cdv Ar outer s H vs Q E hr h => ?_)
  · obtain ⟨a, ns, k, rfl, _⟩ := h; rfl
  · obtain ⟨a, ns, n, rfl, S, k⟩ := h
    refine ⟨_, (pss_cons (ps_if (pt_cmpR op_lt (pv 1) (pe_callB call_len_seq (by rfl) T.z_len (by decide +kernel) (pa_cons (pv 0) pa_nil)) (nomark _)) (pss_one (ps_ret (pe_ix ix_list (pv 0) (pv 1) (fun _ _ => rfl))))
    pss_nil)
    (pss_one (ps_ret pe_int))), ?_⟩
    refine ⟨_, rfl, _, rfl, a, _, rfl, .inl S, _, _, rfl, rfl, _, rfl, ?_⟩
    refine iteD (fun h => ?_) (fun h => ?_)
    · rw [List.length_map] at h
      have hn : n < ns.length := by omega
      refine ⟨_, rfl, _, rfl, a, _, _, .int (cellAt ns n), rfl, rfl, S, at_of rfl ?_, k⟩
      rw [List.getElem?_map, List.getElem?_eq_getElem hn]
      simp [cellAt, List.getD_eq_getElem?_getD, hn]
    · rw [List.length_map] at h
      have e : cellAt ns n = 0 := by
        unfold cellAt
        rw [List.getD_eq_getElem?_getD, List.getElem?_eq_none (by omega)]; rfl
      rw [e] at k
      exact k
end
end Sb
namespace Sb
open PySem PySem.Spec PyProof.Rows L2
/-! ### what the laws share: a cell of the script, whole numbers -/
/-- the kinds that are asked -/
def kinds : List String := ["int", "bool", "NoneType", "str", "list", "tuple"]
def sp_law_whole (K : PySem.W.Frag) (A : Ad) : Sp := fun vs H Q _ => ∃ (v : V) (T : String), vs = [v] ∧ TyX K H v (.type T) ∧ T ∈ kinds ∧ Q (.bl (decide (T = "int"))) H
theorem tInt {K : PySem.W.Frag} {H : Hp} {i : Int} : TyX K H (.int i) (.type "int") := .base (.int i)
theorem tBl {K : PySem.W.Frag} {H : Hp} {b : Bool} : TyX K H (.bl b) (.type "bool") := .base (.bl b)
theorem tStr {K : PySem.W.Frag} {H : Hp} {x : Str} : TyX K H (.str x) (.type "str") := .base (.str x)
theorem tNon {K : PySem.W.Frag} {H : Hp} : TyX K H .non (.type "NoneType") := .base .non
theorem tLst {K : PySem.W.Frag} {H : Hp} {a : Addr} {xs : List V} (e : H a = some (.lst xs)) : TyX K H (.ref a) (.type "list") := .base (.lst e)
theorem tTup {K : PySem.W.Frag} {H : Hp} {a : Addr} {xs : List V} (e : H a = some (.tup xs)) : TyX K H (.ref a) (.type "tuple") := .base (.tup e)
section
variable {P : Program} {w : World} {K : PySem.W.Frag} {mg : Str → Option Value} {base : Heap} {A : Ad}
theorem ok_law_whole (T : Tx K mg A) : Df P w K mg base 1 "_law_whole" ["_law_found"] (sp_law_whole K A) := by
  refine Dd.ok T.d_law_whole sc_law_whole bi_law_whole (fun vs H Q E h => ?_) (fun f cdv Ar outer s H vs Q E hr h => ?_)
  · obtain ⟨v, Ty, rfl, _⟩ := h; rfl
  · obtain ⟨v, Ty, rfl, ty, hm, k⟩ := h
    refine ⟨_, (pss_one (ps_ret (pe_and (pe_callB call_isi (by rfl) T.z_isinstance (by decide +kernel) (pa_cons (pv 0) (pa_cons (pe_bltn (v := .ty "int") (by rfl) T.z_int (by decide +kernel) rfl) pa_nil))) (pe_one (pe_not (pe_callB call_isi (by rfl) T.z_isinstance (by decide +kernel) (pa_cons (pv 0) (pa_cons (pe_bltn (v := .ty "bool") (by rfl) T.z_bool (by decide +kernel) rfl) pa_nil)))))))), ?_⟩
    refine ⟨_, rfl, ?_⟩
    simp only [kinds, List.mem_cons, List.mem_nil_iff, or_false] at hm
    rcases hm with rfl | rfl | rfl | rfl | rfl | rfl
    · refine ⟨_, _, _, _, true, rfl, .ty _, ty, kit_ty (by decide +kernel), ?_⟩
      refine ⟨_, rfl, iteT ⟨_, rfl, ?_⟩⟩
      refine ⟨_, _, _, _, false, rfl, .ty _, ty, kit_ty (by decide +kernel), ?_⟩
      exact ⟨_, rfl, k⟩
    · refine ⟨_, _, _, _, true, rfl, .ty _, ty, kit_ty (by decide +kernel), ?_⟩
      refine ⟨_, rfl, iteT ⟨_, rfl, ?_⟩⟩
      refine ⟨_, _, _, _, true, rfl, .ty _, ty, kit_ty (by decide +kernel), ?_⟩
      exact ⟨_, rfl, k⟩
    all_goals
      refine ⟨_, _, _, _, false, rfl, .ty _, ty, kit_ty (by decide +kernel), ?_⟩
      exact ⟨_, rfl, iteF k⟩
end
end Sb
namespace Sb
open PySem PySem.Spec PyProof.Rows L2
/-- a value of a kind that is asked for -/
def Kind (K : PySem.W.Frag) (H : Hp) (v : V) : Prop := ∃ T, TyX K H v (.type T) ∧ T ∈ kinds ∧ ((∃ i, v = .int i) ↔ T = "int")
def isWh : V → Int → Int → Bool
  | .int i, l, m => decide (l ≤ i) && decide (i ≤ m)
  | _, _, _ => false
theorem Kind.int {K : PySem.W.Frag} {H : Hp} (i : Int) : Kind K H (.int i) := ⟨_, tInt, by decide, fun _ => rfl, fun _ => ⟨i, rfl⟩⟩
theorem Kind.bl {K : PySem.W.Frag} {H : Hp} (b : Bool) : Kind K H (.bl b) := ⟨_, tBl, by decide, (fun ⟨_, h⟩ => nomatch h), fun h => absurd h (by decide)⟩
theorem Kind.str {K : PySem.W.Frag} {H : Hp} (x : Str) : Kind K H (.str x) := ⟨_, tStr, by decide, (fun ⟨_, h⟩ => nomatch h), fun h => absurd h (by decide)⟩
theorem Kind.non {K : PySem.W.Frag} {H : Hp} : Kind K H .non := ⟨_, tNon, by decide, (fun ⟨_, h⟩ => nomatch h), fun h => absurd h (by decide)⟩
theorem isWh_not {v : V} {l m : Int} (h : ¬ ∃ i, v = .int i) : isWh v l m = false := by
  cases v with
  | int i => exact absurd ⟨i, rfl⟩ h
  | _ => rfl
def sp_is_whole (K : PySem.W.Frag) (A : Ad) : Sp := fun vs H Q _ => ∃ (v : V) (l m : Int), vs = [v, .int l, .int m] ∧ Kind K H v ∧ Q (.bl (isWh v l m)) H
section
variable {P : Program} {w : World} {K : PySem.W.Frag} {mg : Str → Option Value} {base : Heap} {A : Ad}
theorem ok_is_whole (T : Tx K mg A) : Df P w K mg base 1 "is_whole" ["thing", "least", "most"] (sp_is_whole K A) := by
  refine Dd.ok T.d_is_whole sc_is_whole bi_is_whole (fun vs H Q E h => ?_) (fun f cdv Ar outer s H vs Q E hr h => ?_)
  · obtain ⟨v, l, m, rfl, _⟩ := h; rfl
  · obtain ⟨v, l, m, rfl, ⟨Ty, ty, hm, hi⟩, k⟩ := h
    refine ⟨_, (pss_one (ps_ret (pe_and (pe_callB call_isi (by rfl) T.z_isinstance (by decide +kernel) (pa_cons (pv 0) (pa_cons (pe_bltn (v := .ty "int") (by rfl) T.z_int (by decide +kernel) rfl) pa_nil))) (pe_and (pe_not (pe_callB call_isi (by rfl) T.z_isinstance (by decide +kernel) (pa_cons (pv 0) (pa_cons (pe_bltn (v := .ty "bool") (by rfl) T.z_bool (by decide +kernel) rfl) pa_nil)))) (pe_one (pe_chain op_le op_le (pv 1) (pv 0) (pv 2))))))), ?_⟩
    refine ⟨_, rfl, ?_⟩
    simp only [kinds, List.mem_cons, List.mem_nil_iff, or_false] at hm
    rcases hm with rfl | rfl | rfl | rfl | rfl | rfl
    · obtain ⟨i, rfl⟩ := hi.mpr rfl
      refine ⟨_, _, _, _, true, rfl, .ty _, ty, kit_ty (by decide +kernel), ?_⟩
      refine ⟨_, rfl, iteT ⟨_, rfl, ?_⟩⟩
      refine ⟨_, _, _, _, false, rfl, .ty _, ty, kit_ty (by decide +kernel), ?_⟩
      refine ⟨_, rfl, _, rfl, iteT ?_⟩
      refine ⟨_, rfl, _, rfl, _, _, rfl, rfl, _, rfl, ?_⟩
      refine iteD (fun h => ?_) (fun h => ?_)
      · refine ⟨_, rfl, _, _, rfl, rfl, ?_⟩
        have e : isWh (.int i) l m = decide (i ≤ m) := by show (decide (l ≤ i) && decide (i ≤ m)) = _; rw [decide_eq_true h]; rfl
        rw [e] at k
        exact k
      · have e : isWh (.int i) l m = false := by show (decide (l ≤ i) && decide (i ≤ m)) = _; rw [decide_eq_false h]; rfl
        rw [e] at k
        exact k
    · rw [isWh_not fun h => absurd (hi.mp h) (by decide)] at k
      refine ⟨_, _, _, _, true, rfl, .ty _, ty, kit_ty (by decide +kernel), ?_⟩
      refine ⟨_, rfl, iteT ⟨_, rfl, ?_⟩⟩
      refine ⟨_, _, _, _, true, rfl, .ty _, ty, kit_ty (by decide +kernel), ?_⟩
      exact ⟨_, rfl, _, rfl, iteF k⟩
    all_goals
      rw [isWh_not fun h => absurd (hi.mp h) (by decide)] at k
      refine ⟨_, _, _, _, false, rfl, .ty _, ty, kit_ty (by decide +kernel), ?_⟩
      exact ⟨_, rfl, iteF k⟩
end
end Sb
namespace Sb
open PySem PySem.Spec PyProof.Rows L2
/-! ### plans, in plain Lean -/
structure PlM where
  pages : Int
  length : Int
  sizes : List Int
structure PlM.Ok (m : PlM) : Prop where
  p1 : 1 ≤ m.pages
  p2 : m.pages ≤ 40
  l1 : 1 ≤ m.length
  l2 : m.length ≤ 60
  s1 : 1 ≤ m.sizes.length
  s2 : m.sizes.length ≤ 8
  rng : ∀ s ∈ m.sizes, 1 ≤ s ∧ s ≤ m.length
  ris : m.sizes.Pairwise (· < ·)
/-- the least size that does -/
def sizeFor (ss : List Int) (w : Int) : Option Int := ss.find? fun s => decide (w ≤ s)
/-- rising behind a number -/
def rises (l : Int) : Int → List V → Bool
  | _, [] => true
  | b, x :: r => isWh x (b + 1) l && match x with
    | .int i => rises l i r
    | _ => false
/-- what a plan is made of is good: xs none: the sizes are no list -/
def szOk : Option (List V) → V → Bool
  | some xs, .int l => decide (1 ≤ xs.length) && decide (xs.length ≤ 8) && rises l 0 xs
  | _, _ => false
def planOk (v1 v2 : V) (xs : Option (List V)) : Bool := isWh v1 1 40 && isWh v2 1 60 && szOk xs v2
theorem isWh_int {v : V} {l m : Int} (h : isWh v l m = true) : ∃ i, v = .int i ∧ l ≤ i ∧ i ≤ m := by
  cases v with
  | int i =>
    have h' : (decide (l ≤ i) && decide (i ≤ m)) = true := h
    rw [Bool.and_eq_true, decide_eq_true_eq, decide_eq_true_eq] at h'
    exact ⟨i, rfl, h'⟩
  | _ => exact absurd h (by simp [isWh])
theorem rises_ok {l : Int} : ∀ {b : Int} {xs : List V}, rises l b xs = true → ∃ ss : List Int, xs = ss.map V.int ∧ ss.Pairwise (· < ·) ∧ ∀ s ∈ ss, b + 1 ≤ s ∧ s ≤ l
  | _, [], _ => ⟨[], rfl, .nil, fun s hs => nomatch hs⟩
  | b, x :: r, h => by
    unfold rises at h
    rw [Bool.and_eq_true] at h
    obtain ⟨i, rfl, h1, h2⟩ := isWh_int h.1
    obtain ⟨ss, rfl, a1, a2⟩ := rises_ok (b := i) (xs := r) h.2
    refine ⟨i :: ss, rfl, .cons (fun s hs => by have := a2 s hs; omega) a1, fun s hs => ?_⟩
    rcases List.mem_cons.mp hs with rfl | hs
    · exact ⟨h1, h2⟩
    · have := a2 s hs; omega
theorem rises_of {l : Int} : ∀ {b : Int} {ss : List Int}, ss.Pairwise (· < ·) → (∀ s ∈ ss, b + 1 ≤ s ∧ s ≤ l) → rises l b (ss.map V.int) = true
  | _, [], _, _ => rfl
  | b, s :: ss, hp, h => by
    have h0 := h s List.mem_cons_self
    show (isWh (.int s) (b + 1) l && rises l s (ss.map V.int)) = true
    have e1 : isWh (.int s) (b + 1) l = true := by
      show (decide (b + 1 ≤ s) && decide (s ≤ l)) = true
      rw [decide_eq_true h0.1, decide_eq_true h0.2]; rfl
    rw [e1, rises_of (List.pairwise_cons.mp hp).2 fun t ht => ⟨by have := (List.pairwise_cons.mp hp).1 t ht; omega, (h t (List.mem_cons_of_mem _ ht)).2⟩]
    rfl
theorem PlM.Ok.good {m : PlM} (h : m.Ok) : planOk (.int m.pages) (.int m.length) (some (m.sizes.map V.int)) = true := by
  unfold planOk
  have e1 : isWh (.int m.pages) 1 40 = true := by
    show (decide (1 ≤ m.pages) && decide (m.pages ≤ 40)) = true
    rw [decide_eq_true h.p1, decide_eq_true h.p2]; rfl
  have e2 : isWh (.int m.length) 1 60 = true := by
    show (decide (1 ≤ m.length) && decide (m.length ≤ 60)) = true
    rw [decide_eq_true h.l1, decide_eq_true h.l2]; rfl
  rw [e1, e2]
  show (true && true && (decide (1 ≤ (m.sizes.map V.int).length) && decide ((m.sizes.map V.int).length ≤ 8) && rises m.length 0 (m.sizes.map V.int))) = true
  rw [List.length_map, decide_eq_true h.s1, decide_eq_true h.s2, rises_of h.ris fun s hs => by have := h.rng s hs; omega]
  rfl
theorem planOk_ok {v1 v2 : V} {xs : Option (List V)} (h : planOk v1 v2 xs = true) : ∃ m : PlM, m.Ok ∧ v1 = .int m.pages ∧ v2 = .int m.length ∧ xs = some (m.sizes.map V.int) := by
  unfold planOk at h
  rw [Bool.and_eq_true, Bool.and_eq_true] at h
  obtain ⟨⟨h1, h2⟩, h3⟩ := h
  obtain ⟨p, rfl, p1, p2⟩ := isWh_int h1
  obtain ⟨l, rfl, l1, l2⟩ := isWh_int h2
  cases xs with
  | none => cases h3
  | some xs =>
    have h4 : (decide (1 ≤ xs.length) && decide (xs.length ≤ 8) && rises l 0 xs) = true := h3
    rw [Bool.and_eq_true, Bool.and_eq_true, decide_eq_true_eq, decide_eq_true_eq] at h4
    obtain ⟨ss, rfl, a1, a2⟩ := rises_ok h4.2
    rw [List.length_map] at h4
    exact ⟨⟨p, l, ss⟩, ⟨p1, p2, l1, l2, h4.1.1, h4.1.2, fun s hs => by have := a2 s hs; exact ⟨by omega, this.2⟩, a1⟩, rfl, rfl, rfl⟩

/-! ### a plan in the heap -/
def plF (m : PlM) (z : Addr) : List (Str × V) := [("pages", .int m.pages), ("length", .int m.length), ("sizes", .ref z)]
structure PlAt (A : Ad) (H : Hp) (p z : Addr) (m : PlM) : Prop where
  ob : ∃ dx, H p = some (.ins A.Plan dx (plF m z))
  sz : H z = some (.lst (m.sizes.map V.int))
  ok : m.Ok
theorem plF_pages (m : PlM) (z : Addr) : (plF m z).lookup ("pages" : Str) = some (.int m.pages) := by kernel_rfl
theorem plF_length (m : PlM) (z : Addr) : (plF m z).lookup ("length" : Str) = some (.int m.length) := by kernel_rfl
theorem plF_sizes (m : PlM) (z : Addr) : (plF m z).lookup ("sizes" : Str) = some (.ref z) := by kernel_rfl
theorem plF_new (p l : Int) (z : Addr) (ss : List Int) : putF ("sizes" : Str) (.ref z) (putF ("length" : Str) (.int l) (putF ("pages" : Str) (.int p) [])) = plF ⟨p, l, ss⟩ z := by kernel_rfl
theorem plF_no_size_for (m : PlM) (z : Addr) : (plF m z).lookup ("size_for" : Str) = none := by kernel_rfl
theorem plF_no_per (m : PlM) (z : Addr) : (plF m z).lookup ("per" : Str) = none := by kernel_rfl
section
variable {K : PySem.W.Frag} {mg : Str → Option Value} {A : Ad} {H : Hp} {p z : Addr} {m : PlM} {Q : V → Prop}
theorem PlAt.fPages (S : PlAt A H p z m) (T : Tx K mg A) (q : Q (.int m.pages)) : RFld K p "pages" H Q := by
  obtain ⟨dx, h⟩ := S.ob
  exact ⟨p, _, dx, _, _, rfl, h, T.c_Plan, T.n_Plan_pages, plF_pages _ _, q⟩
theorem PlAt.fLength (S : PlAt A H p z m) (T : Tx K mg A) (q : Q (.int m.length)) : RFld K p "length" H Q := by
  obtain ⟨dx, h⟩ := S.ob
  exact ⟨p, _, dx, _, _, rfl, h, T.c_Plan, T.n_Plan_length, plF_length _ _, q⟩
theorem PlAt.fSizes (S : PlAt A H p z m) (T : Tx K mg A) (q : Q (.ref z)) : RFld K p "sizes" H Q := by
  obtain ⟨dx, h⟩ := S.ob
  exact ⟨p, _, dx, _, _, rfl, h, T.c_Plan, T.n_Plan_sizes, plF_sizes _ _, q⟩
theorem PlAt.keep {H' : Hp} (S : PlAt A H p z m) (k : ∀ b o, H b = some o → b = p ∨ b = z → H' b = some o) : PlAt A H' p z m := by
  obtain ⟨⟨dx, h⟩, h2, h3⟩ := S
  exact ⟨⟨dx, k _ _ h (.inl rfl)⟩, k _ _ h2 (.inr rfl), h3⟩
end
/-! ### the promises -/
/-- what is handed in as the sizes: a list of these, or none -/
def SzIs (K : PySem.W.Frag) (H : Hp) (v : V) : Option (List V) → Prop
  | some xs => ∃ z, v = .ref z ∧ H z = some (.lst xs) ∧ xs.length ≤ 100 ∧ ∀ x ∈ xs, Kind K H x
  | none => ∃ T, TyX K H v (.type T) ∧ T ∈ kinds ∧ T ≠ "list"
def sp_Plan_init (K : PySem.W.Frag) (A : Ad) : Sp := fun vs H Q E => ∃ (p dx : Addr) (v1 v2 v3 : V) (xs : Option (List V)), vs = [.ref p, v1, v2, v3] ∧ Kind K H v1 ∧ Kind K H v2 ∧ SzIs K H v3 xs ∧ H p = some (.ins A.Plan dx []) ∧
  (planOk v1 v2 xs = false → E (.ref A.BadPlan) none H) ∧
  ∀ (m : PlM) (z : Addr) (H' : Hp), m.Ok → v1 = .int m.pages → v2 = .int m.length → xs = some (m.sizes.map V.int) → H z = none → PlAt A H' p z m → (∀ b o, H b = some o → b ≠ p → H' b = some o) → Q .non H'
def isWish : V → Bool
  | .int i => decide (1 ≤ i)
  | _ => false
def sp_Plan_size_for (K : PySem.W.Frag) (A : Ad) : Sp := fun vs H Q E => ∃ (p z : Addr) (m : PlM) (v : V), vs = [.ref p, v] ∧ PlAt A H p z m ∧ Kind K H v ∧
  (isWish v = false → E (.ref A.BadWish) none H) ∧
  ∀ i, v = .int i → 1 ≤ i → (sizeFor m.sizes i = none → E (.ref A.TooLarge) none H) ∧ ∀ s, sizeFor m.sizes i = some s → Q (.int s) H
def sp_Plan_per (K : PySem.W.Frag) (A : Ad) : Sp := fun vs H Q E => ∃ (p z : Addr) (m : PlM) (v : V), vs = [.ref p, v] ∧ PlAt A H p z m ∧ Kind K H v ∧
  ((∀ i, v = .int i → i ∉ m.sizes) → E (.ref A.NoSize) none H) ∧ ∀ i, v = .int i → i ∈ m.sizes → Q (.int (m.length / i)) H
theorem all_flat_int (l : List Int) : (l.map V.int).all flatV = true := by
  rw [List.all_eq_true]
  intro x hx
  obtain ⟨b, _, rfl⟩ := List.mem_map.mp hx
  rfl
theorem inV_int (i : Int) (l : List Int) : inV (.int i) (l.map V.int) = decide (i ∈ l) := by
  induction l with
  | nil => rfl
  | cons j l ih =>
    have e : inV (.int i) ((j :: l).map V.int) = ((j == i) || inV (.int i) (l.map V.int)) := rfl
    rw [e, ih]
    by_cases h : j = i
    · subst h; simp
    · have h2 : (j == i) = false := by simpa using h
      rw [h2, Bool.false_or]
      exact decide_eq_decide.mpr ⟨fun q => List.mem_cons_of_mem _ q, fun q => by
        rcases List.mem_cons.mp q with q | q
        · exact absurd q.symm h
        · exact q⟩
section
variable {P : Program} {w : World} {K : PySem.W.Frag} {mg : Str → Option Value} {base : Heap} {A : Ad}
theorem ok_Plan_init (T : Tx K mg A) : If_ P w K mg base 2 A.Plan ["self", "pages", "length", "sizes"] (sp_Plan_init K A) := by
  refine Di.ok T.d_Plan_init sc_Plan_init bi_Plan_init (fun vs H Q E h => ?_) (fun f cdv Ar outer s H vs Q E hr h => ?_)
  · obtain ⟨p, dx, v1, v2, v3, xs, rfl, _⟩ := h; rfl
  · obtain ⟨p, dx, v1, v2, v3, xs, rfl, k1, k2, k3, hp, kE, k⟩ := h
    refine ⟨_, (pss_cons (ps_if (PW.pt (pw_or (pt_not (pt_val (pe_df (ok_is_whole T) hr (by decide) (by rfl) (pa_cons (pv 1) (pa_cons pe_int (pa_cons (pe_kint rfl T.k_MOST_PAGES) pa_nil)))))) (pw_or1 (pt_not (pt_val (pe_df (ok_is_whole T) hr (by decide) (by rfl) (pa_cons (pv 2) (pa_cons pe_int (pa_cons (pe_kint rfl T.k_MOST_LENGTH) pa_nil))))))))) (pss_one (ps_err rfl T.e_BadPlan (by rfl) (takes_of rfl rfl rfl rfl)))
    pss_nil)
    (pss_cons (ps_if (PW.pt (pw_or (pt_not (pt_val (pe_callB call_isi (by rfl) T.z_isinstance (by decide +kernel) (pa_cons (pv 3) (pa_cons (pe_bltn (v := .ty "list") (by rfl) T.z_list (by decide +kernel) rfl) pa_nil))))) (pw_or1 (pt_not (pt_chain op_le op_le pe_int (pe_callB call_len_seq (by rfl) T.z_len (by decide +kernel) (pa_cons (pv 3) pa_nil)) (pe_kint rfl T.k_MOST_SIZES)))))) (pss_one (ps_err rfl T.e_BadPlan (by rfl) (takes_of rfl rfl rfl rfl)))
    pss_nil)
    (pss_cons (ps_set (i := 4) sc_Plan_init.nd rfl (Or.inl rfl) pe_int)
    (pss_cons (ps_for (passes_of rfl) rfl (pi_list (pv 3)) (pg_name (i := 5) sc_Plan_init.nd rfl (Or.inl rfl))
    (pss_cons (ps_if (pt_not (pt_val (pe_df (ok_is_whole T) hr (by decide) (by rfl) (pa_cons (pv 5) (pa_cons (pe_op op_add (pv 4) pe_int) (pa_cons (pv 2) pa_nil)))))) (pss_one (ps_err rfl T.e_BadPlan (by rfl) (takes_of rfl rfl rfl rfl)))
    pss_nil)
    (pss_one (ps_set (i := 4) sc_Plan_init.nd rfl (Or.inl rfl) (pv 5)))))
    (pss_cons (ps_fld (pv 0) (pv 1) rfl)
    (pss_cons (ps_fld (pv 0) (pv 2) rfl)
    (pss_one (ps_fld (pv 0) (pe_callTy call_list_of (by rfl) T.z_list (by decide +kernel) (pa_cons (pv 3) pa_nil)) rfl)))))))), ?_⟩
    -- the pages and the length
    have bad : ∀ {b1 b2 b3 : Bool}, isWh v1 1 40 = b1 → isWh v2 1 60 = b2 → szOk xs v2 = b3 → (b1 && b2 && b3) = false → planOk v1 v2 xs = false := fun h1 h2 h3 h => by
      unfold planOk
      rw [h1, h2, h3, h]
    refine ⟨_, rfl, v1, 1, 40, rfl, k1, _, rfl, ?_⟩
    cases e1 : isWh v1 1 40 with
    | false => exact kE (bad e1 rfl rfl rfl)
    | true =>
    obtain ⟨pg, rfl, p1, p2⟩ := isWh_int e1
    refine ⟨_, rfl, v2, 1, 60, rfl, k2, _, rfl, ?_⟩
    cases e2 : isWh v2 1 60 with
    | false => exact kE (bad e1 e2 rfl rfl)
    | true =>
    obtain ⟨ln, rfl, l1, l2⟩ := isWh_int e2
    -- the sizes
    refine ⟨_, rfl, ?_⟩
    cases xs with
    | none =>
      obtain ⟨Ty, ty, hm, hn⟩ := k3
      have fin : E (.ref A.BadPlan) none H := kE (bad (b3 := false) e1 e2 rfl rfl)
      simp only [kinds, List.mem_cons, List.mem_nil_iff, or_false] at hm
      rcases hm with rfl | rfl | rfl | rfl | rfl | rfl
      · exact ⟨_, _, _, _, false, rfl, .ty _, ty, kit_ty (by decide +kernel), _, rfl, fin⟩
      · exact ⟨_, _, _, _, false, rfl, .ty _, ty, kit_ty (by decide +kernel), _, rfl, fin⟩
      · exact ⟨_, _, _, _, false, rfl, .ty _, ty, kit_ty (by decide +kernel), _, rfl, fin⟩
      · exact ⟨_, _, _, _, false, rfl, .ty _, ty, kit_ty (by decide +kernel), _, rfl, fin⟩
      · exact absurd rfl hn
      · exact ⟨_, _, _, _, false, rfl, .ty _, ty, kit_ty (by decide +kernel), _, rfl, fin⟩
    | some xs =>
    obtain ⟨z, rfl, hz, hl, hk⟩ := k3
    have nzp : z ≠ p := ne_of hz hp (by intro q; cases q)
    refine ⟨_, _, _, _, true, rfl, .ty _, tLst hz, kit_ty (by decide +kernel), _, rfl, iteF ?_⟩
    refine ⟨_, rfl, z, _, rfl, .inl (SqL.of hz), _, _, rfl, rfl, _, rfl, ?_⟩
    have bad3 : ∀ {b : Bool}, (decide (1 ≤ xs.length) && decide (xs.length ≤ 8) && rises ln 0 xs) = b → b = false → E (.ref A.BadPlan) none H := fun h1 h2 => kE (bad (b3 := false) e1 e2 (h1.trans h2) rfl)
    refine iteD (fun q1 => ?_) (fun q1 => ?_)
    rotate_left
    · refine ⟨_, rfl, bad3 (b := false) ?_ rfl⟩
      rw [decide_eq_false (by omega)]; rfl
    refine ⟨_, _, rfl, rfl, _, rfl, ?_⟩
    show if (!decide ((xs.length : Int) ≤ 8)) = true then _ else _
    refine iteND (fun q2 => ?_) (fun q2 => ?_)
    · refine bad3 (b := false) ?_ rfl
      rw [decide_eq_false (show ¬ xs.length ≤ 8 by omega)]; simp
    have g1 : decide (1 ≤ xs.length) = true := decide_eq_true (by omega)
    have g2 : decide (xs.length ≤ 8) = true := decide_eq_true (by omega)
    rw [g1, g2] at bad3
    -- for size in sizes
    refine ⟨_, rfl, z, rfl, ⟨_, SqL.of hz⟩, for_list (K := K) (a := z) (xs := xs) (fun i σ H' => H' = H ∧ ∃ (b : Int) (v : Option V), σ = [some (.ref p), some (.int pg), some (.int ln), some (.ref z), some (.int b), v] ∧ rises ln 0 xs = rises ln b (xs.drop i)) ⟨rfl, 0, _, rfl, rfl⟩ (fun i σ H' _ h => by rw [h.1]; exact SqL.of hz) ?_ ?_⟩
    · rintro i x σ H' hx ⟨rfl, b, v, rfl, hr0⟩
      have hxm : x ∈ xs := List.mem_of_getElem? hx
      have hd : xs.drop i = x :: xs.drop (i + 1) := by
        obtain ⟨h1, h2⟩ := List.getElem?_eq_some_iff.mp hx
        rw [List.drop_eq_getElem_cons h1, h2]
      refine ⟨_, rfl, _, rfl, _, _, rfl, rfl, _, rfl, x, b + 1, ln, rfl, hk x hxm, _, rfl, ?_⟩
      rw [hd] at hr0
      cases e3 : isWh x (b + 1) ln with
      | false =>
        refine bad3 (b := false) ?_ rfl
        rw [hr0]
        show (true && true && (isWh x (b + 1) ln && _)) = false
        rw [e3]; rfl
      | true =>
        obtain ⟨j, rfl, _⟩ := isWh_int e3
        refine ⟨_, rfl, rfl, j, _, rfl, hr0.trans ?_⟩
        show (isWh (.int j) (b + 1) ln && rises ln j (xs.drop (i + 1))) = _
        rw [e3]; rfl
    · rintro σ H' ⟨rfl, b, v, rfl, hr0⟩
      rw [List.drop_length] at hr0
      have good : planOk (.int pg) (.int ln) (some xs) = true := by
        unfold planOk
        rw [e1, e2]
        show (true && true && (decide (1 ≤ xs.length) && decide (xs.length ≤ 8) && rises ln 0 xs)) = true
        rw [g1, g2, hr0]; rfl
      obtain ⟨m, mok, m1, m2, m3⟩ := planOk_ok good
      cases m1
      cases m2
      have m4 : xs = m.sizes.map V.int := Option.some.inj m3
      subst m4
      -- the fields
      refine ⟨_, rfl, _, rfl, p, _, dx, _, rfl, hp, T.c_Plan, T.n_Plan_pages, (by decide), ?_⟩
      refine ⟨_, rfl, _, rfl, p, _, dx, _, rfl, upd_same, T.c_Plan, T.n_Plan_length, (by show 1 < 1000; decide), ?_⟩
      refine ⟨_, rfl, z, _, rfl, .inl (SqL.of (by rw [upd_ne nzp, upd_ne nzp]; exact hz)), fun l hl => ?_⟩
      have npl : p ≠ l := fun e => by rw [← e, upd_same] at hl; cases hl
      have hl0 : H' l = none := by rw [upd_ne npl.symm, upd_ne npl.symm] at hl; exact hl
      refine ⟨_, rfl, p, _, dx, _, rfl, (by rw [upd_ne npl]; exact upd_same), T.c_Plan, T.n_Plan_sizes, (by show 2 < 1000; decide), ?_⟩
      refine k m l _ mok rfl rfl m3 hl0 ⟨⟨dx, ?_⟩, ?_, mok⟩ fun b o e nb => ?_
      · rw [upd_same, plF_new _ _ _ m.sizes]
      · rw [upd_ne npl.symm, upd_same]
      · rw [upd_ne nb, upd_ne (ne_of_none e hl0), upd_ne nb, upd_ne nb]
        exact e
end
end Sb
namespace Sb
open PySem PySem.Spec PyProof.Rows L2
/-! ### the sizes that a cell gives -/
def szStep (span l : Int) (s : List Int × Int × Int) : List Int × Int × Int :=
  (if s.2.1 + 1 + s.2.2 % span ≤ l then s.1 ++ [s.2.1 + 1 + s.2.2 % span] else s.1, s.2.1 + 1 + s.2.2 % span, s.2.2 / span)
def szRun (span l c : Int) : Nat → List Int × Int × Int
  | 0 => ([], 0, c / 3)
  | n + 1 => szStep span l (szRun span l c n)
def spanOf (c l : Int) : Int := if c % 3 = 0 then l else 4
def sizesBy (c l : Int) (n : Nat) : List Int := if (szRun (spanOf c l) l c n).1 = [] then [l] else (szRun (spanOf c l) l c n).1
structure SzOk (l : Int) (n : Nat) (ss : List Int) (b : Int) : Prop where
  len : ss.length ≤ n
  ris : ss.Pairwise (· < ·)
  rng : ∀ s ∈ ss, 1 ≤ s ∧ s ≤ l ∧ s ≤ b
  nn : 0 ≤ b
theorem szRun_ok {span l c : Int} (hs : 0 < span) : ∀ n, SzOk l n (szRun span l c n).1 (szRun span l c n).2.1
  | 0 => ⟨Nat.le_refl _, .nil, (fun s hs => nomatch hs), Int.le_refl _⟩
  | n + 1 => by
    have ih := szRun_ok (span := span) (l := l) (c := c) hs n
    have hr := Int.emod_nonneg (szRun span l c n).2.2 (show span ≠ 0 by omega)
    show SzOk l (n + 1) (szStep span l (szRun span l c n)).1 (szStep span l (szRun span l c n)).2.1
    have i1 := ih.len
    have i4 := ih.nn
    unfold szStep
    dsimp only
    split
    · refine ⟨by rw [List.length_append]; simp; omega, ?_, fun s hm => ?_, by omega⟩
      · rw [List.pairwise_append]
        refine ⟨ih.ris, List.pairwise_singleton _ _, fun a ha b hb => ?_⟩
        rw [List.mem_singleton.mp hb]
        have := ih.rng a ha
        omega
      · rcases List.mem_append.mp hm with hm | hm
        · have := ih.rng s hm; omega
        · rw [List.mem_singleton.mp hm]; omega
    · exact ⟨by omega, ih.ris, fun s hm => by have := ih.rng s hm; omega, by omega⟩
theorem span_pos {c l : Int} (hl : 1 ≤ l) : 0 < spanOf c l := by unfold spanOf; split <;> omega
theorem sizesBy_ok {c l : Int} {n : Nat} (hl : 1 ≤ l) (hn : 1 ≤ n) : 1 ≤ (sizesBy c l n).length ∧ (sizesBy c l n).length ≤ n ∧ (sizesBy c l n).Pairwise (· < ·) ∧ ∀ s ∈ sizesBy c l n, 1 ≤ s ∧ s ≤ l := by
  have h := szRun_ok (l := l) (c := c) (span_pos (c := c) hl) n
  unfold sizesBy
  split
  · exact ⟨Nat.le_refl _, hn, List.pairwise_singleton _ _, fun s hs => by rw [List.mem_singleton.mp hs]; omega⟩
  · rename_i hne
    exact ⟨List.length_pos_iff.mpr hne, h.len, h.ris, fun s hs => by have := h.rng s hs; omega⟩
theorem eqv_nil (xs : List Int) : PyData.eqv (dInts xs) (dInts []) = decide (xs = []) := by
  cases xs with
  | nil => rfl
  | cons x xs => simp [PyData.eqv, PyData.eqvAll]
def sp_law_sizes_by (K : PySem.W.Frag) (A : Ad) : Sp := fun vs H Q _ => ∃ (c l : Int) (n : Nat), vs = [.int c, .int l, .int n] ∧ 1 ≤ l ∧ l ≤ 60 ∧ n ≤ 8 ∧
  ∀ q H', H q = none → Same H H' → H' q = some (.lst ((sizesBy c l n).map V.int)) → Q (.ref q) H'
section
variable {P : Program} {w : World} {K : PySem.W.Frag} {mg : Str → Option Value} {base : Heap} {A : Ad}
theorem ok_law_sizes_by (T : Tx K mg A) : Df P w K mg base 1 "_law_sizes_by" ["_law_cell", "_law_length", "_law_many"] (sp_law_sizes_by K A) := by
  refine Dd.ok T.d_law_sizes_by sc_law_sizes_by bi_law_sizes_by (fun vs H Q E h => ?_) (fun f cdv Ar outer s H vs Q E hr h => ?_)
  · obtain ⟨c, l, n, rfl, _⟩ := h; rfl
  · obtain ⟨c, l, n, rfl, l1, l2, hn, k⟩ := h
    refine ⟨_, (pss_cons (ps_set (i := 3) sc_law_sizes_by.nd rfl (Or.inl rfl) (pe_lst pa_nil))
    (pss_cons (ps_set (i := 4) sc_law_sizes_by.nd rfl (Or.inl rfl) pe_int)
    (pss_cons (ps_set (i := 5) sc_law_sizes_by.nd rfl (Or.inl rfl) (pe_op op_fdiv (pv 0) pe_int))
    (pss_cons (ps_set (i := 6) sc_law_sizes_by.nd rfl (Or.inl rfl) pe_int)
    (Evl.pss_cut (ps_if (pt_cmpR op_eq (pe_op op_mod (pv 0) pe_int) pe_int (nomark _)) (pss_one (ps_set (i := 6) sc_law_sizes_by.nd rfl (Or.inl rfl) (pv 1)))
    pss_nil)
    (pss_cons (ps_for (passes_of rfl) rfl (pi_range1 (by rfl) T.z_range (pa_cons (pv 2) pa_nil)) (pg_name (i := 7) sc_law_sizes_by.nd rfl (Or.inl rfl))
    (pss_cons (ps_set (i := 4) sc_law_sizes_by.nd rfl (Or.inl rfl) (pe_op op_add (pe_op op_add (pv 4) pe_int) (pe_op op_mod (pv 5) (pv 6))))
    (pss_cons (ps_set (i := 5) sc_law_sizes_by.nd rfl (Or.inl rfl) (pe_op op_fdiv (pv 5) (pv 6)))
    (pss_one (ps_if (pt_cmpR op_le (pv 4) (pv 1) (nomark _)) (pss_one (ps_expr (pe_bm PySem.F.plainAttrs_list PySem.F.slot_list_append PySem.F.type_list_append mt_append (pv 3) (pa_cons (pv 4) pa_nil))))
    pss_nil)))))
    (pss_cons (ps_if (pt_cmpR (op_eqD hr.units) (pv 3) (pe_lst pa_nil) (nomark _)) (pss_one (ps_expr (pe_bm PySem.F.plainAttrs_list PySem.F.slot_list_append PySem.F.type_list_append mt_append (pv 3) (pa_cons (pv 1) pa_nil))))
    pss_nil)
    (pss_one (ps_ret (pv 3)))))))))), ?_⟩
    -- found = []; before = 0; rest = cell // 3; span = 4
    refine ⟨(by decide), fun q hq => ?_⟩
    refine ⟨_, rfl, _, _, rfl, rfl, ⟨by decide, by decide⟩, ?_⟩
    refine ⟨fun σ H' => H' = upd H q (.lst []) ∧ σ = [some (.int c), some (.int l), some (.int n), some (.ref q), some (.int 0), some (.int (c / 3)), some (.int (spanOf c l)), none], ?_, ?_⟩
    · refine ⟨_, rfl, _, _, rfl, rfl, (by show (0 : Int) < 3; decide), rfl, _, rfl, ?_⟩
      refine iteD (fun h => ?_) (fun h => ?_)
      · refine ⟨_, rfl, rfl, ?_⟩
        have e : spanOf c l = l := if_pos (by simpa using h)
        rw [e]; rfl
      · refine ⟨rfl, ?_⟩
        have e : spanOf c l = 4 := if_neg (by simpa using h)
        rw [e]; rfl
    rintro σ H' ⟨rfl, rfl⟩
    have sp1 := span_pos (c := c) l1
    have sp2 : spanOf c l < 1073741824 := by unfold spanOf; split <;> omega
    have s0 : Same H (upd H q (.lst [])) := fun b o e => by rw [upd_ne (ne_of_none e hq)]; exact e
    -- the loop
    refine ⟨_, rfl, _, rfl, (by omega), (by omega), for_range (lo := 0) (n := _) (fun i σ H' => Same H H' ∧ H' q = some (.lst ((szRun (spanOf c l) l c i).1.map V.int)) ∧ ∃ v, σ = [some (.int c), some (.int l), some (.int n), some (.ref q), some (.int (szRun (spanOf c l) l c i).2.1), some (.int (szRun (spanOf c l) l c i).2.2), some (.int (spanOf c l)), v]) ⟨s0, upd_same, _, rfl⟩ ?_ ?_⟩
    · rintro i σ H1 hi ⟨s1, h1, v, rfl⟩
      have hi2 : i < n := by simpa using hi
      refine ⟨_, rfl, _, _, rfl, rfl, _, rfl, _, rfl, _, _, rfl, rfl, sp1, _, _, rfl, rfl, ?_⟩
      refine ⟨_, rfl, _, rfl, _, _, rfl, rfl, ⟨sp1, sp2⟩, ?_⟩
      refine ⟨_, rfl, _, rfl, _, _, rfl, rfl, _, rfl, ?_⟩
      refine iteD (fun h => ?_) (fun h => ?_)
      · refine ⟨_, rfl, .inl ⟨rfl, _, SqL.of h1⟩, _, rfl, q, _, _, rfl, rfl, h1, ?_, ?_⟩
        · rw [List.length_map]
          have := (szRun_ok (l := l) (c := c) sp1 i).len
          exact Nat.lt_of_le_of_lt (by omega : _ ≤ 8) (by decide)
        · refine ⟨fun b o e => by rw [upd_ne (ne_of_none e hq)]; exact s1 _ _ e, ?_, _, rfl⟩
          rw [upd_same]
          show _ = some (HO.lst ((szStep (spanOf c l) l (szRun (spanOf c l) l c i)).1.map V.int))
          unfold szStep
          dsimp only
          rw [if_pos h, List.map_append]
          rfl
      · refine ⟨s1, ?_, _, rfl⟩
        rw [h1]
        show _ = some (HO.lst ((szStep (spanOf c l) l (szRun (spanOf c l) l c i)).1.map V.int))
        unfold szStep
        dsimp only
        rw [if_neg h]
    · rintro σ H1 ⟨s1, h1, v, rfl⟩
      rw [Int.toNat_natCast] at h1 ⊢
      -- if found == []
      refine ⟨_, rfl, (by decide), fun e he => ?_⟩
      have nqe : q ≠ e := fun z => by rw [z, he] at h1; cases h1
      refine ⟨_, _, dp_ints (SqL.of (by rw [upd_ne nqe]; exact h1)), dp_ints (l := []) (SqL.of upd_same), (sh_ints _).shaped (by decide), (sh_ints _).shaped (by decide), _, rfl, ?_⟩
      rw [eqv_nil]
      have s2 : Same H (upd H1 e (.lst [])) := fun b o eb => by rw [upd_ne (ne_of_none (s1 _ _ eb) he)]; exact s1 _ _ eb
      refine iteD (fun h => ?_) (fun h => ?_)
      · have h2 : (upd H1 e (.lst [])) q = some (.lst []) := by rw [upd_ne nqe, h1, h]; rfl
        refine ⟨_, rfl, .inl ⟨rfl, _, SqL.of h2⟩, _, rfl, q, _, _, rfl, rfl, h2, (by decide), ?_⟩
        refine ⟨_, rfl, k q _ hq (fun b o eb => by rw [upd_ne (ne_of_none eb hq)]; exact s2 _ _ eb) ?_⟩
        rw [upd_same]
        unfold sizesBy
        rw [if_pos h]; rfl
      · refine ⟨_, rfl, k q _ hq s2 ?_⟩
        rw [upd_ne nqe, h1]
        unfold sizesBy
        rw [if_neg h]
end
end Sb
namespace Sb
open PySem PySem.Spec PyProof.Rows L2
/-! ### kinds stay -/
theorem tyOf_keep {K : PySem.W.Frag} {H H' : Hp} (s : Same H H') {v : V} {t : Value} (h : TyOf K H v t) : TyOf K H' v t := by
  cases h with
  | non => exact .non
  | bl x => exact .bl x
  | int i => exact .int i
  | str x => exact .str x
  | flt x => exact .flt x
  | lst e => exact .lst (s _ _ e)
  | frz e => exact .frz (s _ _ e)
  | tup e => exact .tup (s _ _ e)
  | dK e => exact .dK (s _ _ e)
  | dT e => exact .dT (s _ _ e)
  | ins e a b c d f => exact .ins (s _ _ e) a b c d f
theorem tyX_keep {K : PySem.W.Frag} {H H' : Hp} (s : Same H H') {v : V} {t : Value} (h : TyX K H v t) : TyX K H' v t := by
  cases h with
  | base h => exact .base (tyOf_keep s h)
  | byt b => exact .byt b
  | set e => exact .set (s _ _ e)
  | kList e c => exact .kList e c
  | kTuple e c => exact .kTuple e c
  | kDict e c => exact .kDict e c
  | fTuple e => exact .fTuple (s _ _ e)
  | fDict e => exact .fDict (s _ _ e)
theorem Kind.keep {K : PySem.W.Frag} {H H' : Hp} {v : V} (s : Same H H') (h : Kind K H v) : Kind K H' v := by
  obtain ⟨T, a, b⟩ := h
  exact ⟨T, tyX_keep s a, b⟩
theorem SzIs.keep {K : PySem.W.Frag} {H H' : Hp} {v : V} {xs : Option (List V)} (s : Same H H') (h : SzIs K H v xs) : SzIs K H' v xs := by
  cases xs with
  | none => obtain ⟨T, a, b⟩ := h; exact ⟨T, tyX_keep s a, b⟩
  | some xs => obtain ⟨z, a, b, c, d⟩ := h; exact ⟨z, a, s _ _ b, c, fun x hx => (d x hx).keep s⟩
/-! ### what spoils a list of sizes -/
theorem rises_bad {l : Int} {w : V} {r : List V} : ∀ {pre : List Int} {b : Int}, rises l b (pre.map V.int ++ w :: r) = true → isWh w ((pre.getLast?.getD b) + 1) l = true
  | [], b, h => by
    have h' : (isWh w (b + 1) l && _) = true := h
    exact (Bool.and_eq_true_iff.mp h').1
  | p :: pre, b, h => by
    have h' : (isWh (.int p) (b + 1) l && rises l p (pre.map V.int ++ w :: r)) = true := h
    have := rises_bad (pre := pre) (b := p) (Bool.and_eq_true_iff.mp h').2
    rw [List.getLast?_cons]
    simpa using this
def sp_law_refused (K : PySem.W.Frag) (A : Ad) : Sp := fun vs H Q _ => ∃ (v1 v2 v3 : V) (xs : Option (List V)) (i : Int), vs = [v1, v2, v3, .int i] ∧ Kind K H v1 ∧ Kind K H v2 ∧ SzIs K H v3 xs ∧ planOk v1 v2 xs = false ∧ ∀ H', Q (.bl true) H'
def sp_law_bad_sizes (K : PySem.W.Frag) (A : Ad) : Sp := fun vs H Q _ => ∃ (q : Addr) (ss : List Int) (l c : Int), vs = [.ref q, .int l, .int c] ∧ H q = some (.lst (ss.map V.int)) ∧ 1 ≤ ss.length ∧ ss.length ≤ 8 ∧ (∀ s ∈ ss, 1 ≤ s) ∧
  ∀ r H' xs, Same H H' → H' r = some (.lst xs) → xs.length ≤ 100 → (∀ x ∈ xs, ∀ H, Kind K H x) → rises l 0 xs = false → Q (.ref r) H'
def sp_law_wrong (K : PySem.W.Frag) (A : Ad) : Sp := fun vs H Q _ => ∃ (q : Addr) (ss : List Int) (pg l c : Int), vs = [.int pg, .int l, .ref q, .int c] ∧ H q = some (.lst (ss.map V.int)) ∧ 1 ≤ pg ∧ pg ≤ 40 ∧ 1 ≤ l ∧ l ≤ 60 ∧ 1 ≤ ss.length ∧ ss.length ≤ 8 ∧ (∀ s ∈ ss, 1 ≤ s) ∧ 0 ≤ c ∧ c % 4 ≠ 0 ∧
  ∀ t H' v1 v2 v3 xs, Same H H' → H' t = some (.tup [v1, v2, v3]) → Kind K H' v1 → Kind K H' v2 → SzIs K H' v3 xs → planOk v1 v2 xs = false → Q (.ref t) H'
def sp_law (K : PySem.W.Frag) (A : Ad) : Sp := fun vs H Q _ => ∃ (a : Addr) (ns : List Int), vs = [.ref a] ∧ SqL K H a (ns.map V.int) ∧ ns.length ≤ 63 ∧ ∀ H', Q (.bl true) H'
theorem Same.mk2 {H : Hp} {x dx C : Addr} (nx : H x = none) (nd : H dx = none) : Same H (upd (upd H dx (.own x)) x (.ins C dx [])) := fun b o e => by
  rw [upd_ne (ne_of_none e nx), upd_ne (ne_of_none e nd)]; exact e
theorem Same.new {H : Hp} {x : Addr} {u : HO} (nx : H x = none) : Same H (upd H x u) := fun b o e => by rw [upd_ne (ne_of_none e nx)]; exact e
theorem cut_to (l : List V) (n : Nat) : cutV l none (some (n : Int)) = l.take n := by
  unfold cutV
  rw [HT.sIx_none, HT.sIx_nat, List.drop_zero, Nat.sub_zero]
  rcases Nat.le_total n l.length with h | h
  · rw [Nat.min_eq_left h]
  · rw [Nat.min_eq_right h, List.take_length, List.take_of_length_le h]
theorem cut_mem {ns : List Int} {lo hi : Option Int} {x : V} (h : x ∈ cutV (ns.map V.int) lo hi) : ∃ z, x = V.int z := by
  unfold cutV at h
  obtain ⟨z, _, e⟩ := List.mem_map.mp (List.mem_of_mem_drop (List.mem_of_mem_take h))
  exact ⟨z, e.symm⟩
/-- an item of a written list at a reckoned place -/
theorem pick {xs : List V} {m : Int} (h0 : 0 ≤ m) (h1 : m < xs.length) : ∃ v, atI xs m = some v ∧ v ∈ xs := by
  have h : m.toNat < xs.length := by omega
  exact ⟨xs[m.toNat], at_of (j := m.toNat) (by omega) (List.getElem?_eq_getElem h), List.getElem_mem h⟩
section
variable {P : Program} {w : World} {K : PySem.W.Frag} {mg : Str → Option Value} {base : Heap} {A : Ad}
theorem ok_law_refused (T : Tx K mg A) : Df P w K mg base 4 "_law_refused" ["_law_pages", "_law_length", "_law_sizes", "_law_way"] (sp_law_refused K A) := by
  refine Dd.ok T.d_law_refused sc_law_refused bi_law_refused (fun vs H Q E h => ?_) (fun f cdv Ar outer s H vs Q E hr h => ?_)
  · obtain ⟨v1, v2, v3, xs, i, rfl, _⟩ := h; rfl
  · obtain ⟨v1, v2, v3, xs, i, rfl, k1, k2, k3, hb, k⟩ := h
    refine ⟨_, (pss_cons (ps_if (pt_cmpR op_eq (pe_op op_mod (pv 3) pe_int) pe_int (nomark _)) (pss_cons (ps_try_only rfl rfl ⟨rfl, by decide, .inl T.e_BadPlan.g⟩ takes0 (fun W pn xe tk po => (pss_one (ps_expr (pe_ifS (ok_Plan_init T) T.g_Plan hr (by decide) (by rfl) tk (pa_cons (pv 0) (pa_cons (pv 1) (pa_cons (pv 2) pa_nil)))))))
    (fun a oe cls d pn hz hf => (pss_one (ps_ret pe_bl))))
    (pss_one (ps_ret pe_bl)))
    pss_nil)
    (pss_cons (ps_try_as (i := 4) rfl rfl sc_law_refused.nd rfl rfl ⟨rfl, by decide, .inl T.e_RoomError.g⟩ takes0 (fun W pn xe tk po => (pss_one (ps_expr (pe_ifS (ok_Plan_init T) T.g_Plan hr (by decide) (by rfl) tk (pa_cons (pv 0) (pa_cons (pv 1) (pa_cons (pv 2) pa_nil)))))))
    (fun a oe cls d pn hz hf => pss_ex (R := fun De => cls = .ref De ∧ d = none ∧ ExcC K De) (t := fun De => (tSeq (tIfS (tOr (tB (tCB (rIsE K De a) (tCons (tVar 4) (tCons (tC (.ref A.BadWish)) tNil)))) (tOr (tB (tCB (rIsE K De a) (tCons (tVar 4) (tCons (tC (.ref A.TooLarge)) tNil)))) (tB (tCB (rIsE K De a) (tCons (tVar 4) (tCons (tC (.ref A.NoRoom)) tNil)))))) (tRet (tC (.bl false))) tNext) (tSeq (tIfS (tOr (tB (tCB (rIsE K De a) (tCons (tVar 4) (tCons (tC (.ref A.NotOut)) tNil)))) (tOr (tB (tCB (rIsE K De a) (tCons (tVar 4) (tCons (tC (.ref A.OutOfThing)) tNil)))) (tB (tCB (rIsE K De a) (tCons (tVar 4) (tCons (tC (.ref A.NoSize)) tNil)))))) (tRet (tC (.bl false))) tNext) (tRet (tAndV (tCB (rIsE K De a) (tCons (tVar 4) (tCons (tC (.ty "ValueError")) tNil))) (tCB (rIsE K De a) (tCons (tVar 4) (tCons (tC (.ref A.BadPlan)) tNil)))))))) (fun De hR => (pss_cons (ps_if (PW.pt (pw_or (pt_val (pe_callB (call_isE hR.2.2 (zc_of hz hR.1 hR.2.1) hf) (by rfl) T.z_isinstance (by decide +kernel) (pa_cons (pv 4) (pa_cons (pe_glob rfl T.e_BadWish.g rfl) pa_nil)))) (pw_or (pt_val (pe_callB (call_isE hR.2.2 (zc_of hz hR.1 hR.2.1) hf) (by rfl) T.z_isinstance (by decide +kernel) (pa_cons (pv 4) (pa_cons (pe_glob rfl T.e_TooLarge.g rfl) pa_nil)))) (pw_or1 (pt_val (pe_callB (call_isE hR.2.2 (zc_of hz hR.1 hR.2.1) hf) (by rfl) T.z_isinstance (by decide +kernel) (pa_cons (pv 4) (pa_cons (pe_glob rfl T.e_NoRoom.g rfl) pa_nil)))))))) (pss_one (ps_ret pe_bl))
    pss_nil)
    (pss_cons (ps_if (PW.pt (pw_or (pt_val (pe_callB (call_isE hR.2.2 (zc_of hz hR.1 hR.2.1) hf) (by rfl) T.z_isinstance (by decide +kernel) (pa_cons (pv 4) (pa_cons (pe_glob rfl T.e_NotOut.g rfl) pa_nil)))) (pw_or (pt_val (pe_callB (call_isE hR.2.2 (zc_of hz hR.1 hR.2.1) hf) (by rfl) T.z_isinstance (by decide +kernel) (pa_cons (pv 4) (pa_cons (pe_glob rfl T.e_OutOfThing.g rfl) pa_nil)))) (pw_or1 (pt_val (pe_callB (call_isE hR.2.2 (zc_of hz hR.1 hR.2.1) hf) (by rfl) T.z_isinstance (by decide +kernel) (pa_cons (pv 4) (pa_cons (pe_glob rfl T.e_NoSize.g rfl) pa_nil)))))))) (pss_one (ps_ret pe_bl))
    pss_nil)
    (pss_one (ps_ret (pe_and (pe_callB (call_isE hR.2.2 (zc_of hz hR.1 hR.2.1) hf) (by rfl) T.z_isinstance (by decide +kernel) (pa_cons (pv 4) (pa_cons (pe_bltn (v := .ty "ValueError") (by rfl) T.z_ValueError (by decide +kernel) rfl) pa_nil))) (pe_one (pe_callB (call_isE hR.2.2 (zc_of hz hR.1 hR.2.1) hf) (by rfl) T.z_isinstance (by decide +kernel) (pa_cons (pv 4) (pa_cons (pe_glob rfl T.e_BadPlan.g rfl) pa_nil))))))))))))
    (pss_one (ps_ret pe_bl)))), ?_⟩
    refine ⟨_, rfl, _, _, rfl, rfl, (by show (0 : Int) < 2; decide), rfl, _, rfl, ?_⟩
    refine iteD (fun _ => ?_) (fun _ => ?_)
    · refine ⟨_, rfl, _, rfl, _, rfl, fun p dp np ndp nep => ?_⟩
      have sm := Same.mk2 (C := A.Plan) np ndp
      refine ⟨p, dp, v1, v2, v3, xs, rfl, k1.keep sm, k2.keep sm, k3.keep sm, upd_same, fun _ => ?_, fun m z H3 hm e1 e2 e3 hz S k3 => ?_⟩
      · exact ⟨true, T.x_BadPlan_BadPlan, fun _ a ha => k _, fun q => nomatch q⟩
      · subst e1 e2 e3
        rw [hm.good] at hb
        cases hb
    · refine ⟨_, rfl, _, rfl, _, rfl, fun p dp np ndp nep => ?_⟩
      have sm := Same.mk2 (C := A.Plan) np ndp
      refine ⟨p, dp, v1, v2, v3, xs, rfl, k1.keep sm, k2.keep sm, k3.keep sm, upd_same, fun _ => ?_, fun m z H3 hm e1 e2 e3 hz S k3 => ?_⟩
      · refine ⟨true, T.x_BadPlan_RoomError, fun _ a ha => ?_, fun q => nomatch q⟩
        refine ⟨A.BadPlan, ⟨rfl, rfl, T.xc_BadPlan⟩, ?_⟩
        refine ⟨_, rfl, _, _, false, rfl, (fun u h => h), T.kt_BadPlan_BadWish, _, rfl, iteF ?_⟩
        refine ⟨_, rfl, _, _, false, rfl, (fun u h => h), T.kt_BadPlan_TooLarge, _, rfl, iteF ?_⟩
        refine ⟨_, rfl, _, _, false, rfl, (fun u h => h), T.kt_BadPlan_NoRoom, _, rfl, iteF ?_⟩
        refine ⟨_, rfl, _, _, false, rfl, (fun u h => h), T.kt_BadPlan_NotOut, _, rfl, iteF ?_⟩
        refine ⟨_, rfl, _, _, false, rfl, (fun u h => h), T.kt_BadPlan_OutOfThing, _, rfl, iteF ?_⟩
        refine ⟨_, rfl, _, _, false, rfl, (fun u h => h), T.kt_BadPlan_NoSize, _, rfl, iteF ?_⟩
        refine ⟨_, rfl, _, _, true, rfl, (fun u h => h), T.kt_BadPlan_ValueError, _, rfl, iteT ?_⟩
        exact ⟨_, rfl, _, _, true, rfl, (fun u h => h), T.kt_BadPlan_BadPlan, k _⟩
      · subst e1 e2 e3
        rw [hm.good] at hb
        cases hb
theorem ok_law_bad_sizes (T : Tx K mg A) : Df P w K mg base 1 "_law_bad_sizes" ["_law_sizes", "_law_length", "_law_cell"] (sp_law_bad_sizes K A) := by
  refine Dd.ok T.d_law_bad_sizes sc_law_bad_sizes bi_law_bad_sizes (fun vs H Q E h => ?_) (fun f cdv Ar outer s H vs Q E hr h => ?_)
  · obtain ⟨q, ss, l, c, rfl, _⟩ := h; rfl
  · obtain ⟨q, ss, l, c, rfl, hq, s1, s8, hpos, k⟩ := h
    refine ⟨_, (pss_cons (ps_set (i := 3) sc_law_bad_sizes.nd rfl (Or.inl rfl) (pe_op op_mod (pe_op op_fdiv (pv 2) pe_int) (pe_callB call_len_seq (by rfl) T.z_len (by decide +kernel) (pa_cons (pv 0) pa_nil))))
    (pss_cons (ps_set (i := 4) sc_law_bad_sizes.nd rfl (Or.inl rfl) pe_int)
    (Evl.pss_cut (ps_if (pt_cmpR op_gt (pv 3) pe_int (nomark _)) (pss_one (ps_set (i := 4) sc_law_bad_sizes.nd rfl (Or.inl rfl) (pe_ix ix_list (pv 0) (pe_op op_sub (pv 3) pe_int) (fun _ _ => rfl))))
    pss_nil)
    (pss_cons (ps_set (i := 5) sc_law_bad_sizes.nd rfl (Or.inl rfl) (pe_ix ix_list (pe_lst (pa_cons (pv 4) (pa_cons (pe_op op_sub (pe_op op_sub (pv 4) pe_int) (pe_op op_mod (pe_op op_fdiv (pv 2) pe_int) pe_int)) (pa_cons (pe_op op_add (pe_op op_add (pv 1) pe_int) (pe_op op_mod (pe_op op_fdiv (pv 2) pe_int) pe_int)) (pa_cons pe_bl (pa_cons pe_str (pa_cons pe_int (pa_cons pe_non pa_nil)))))))) (pe_op op_mod (pv 2) pe_int) (fun _ _ => rfl)))
    (pss_one (ps_ret (pe_op op_cat (pe_op op_cat (pe_slice sl_list (pv 0) po_none (po_some (pv 3))) (pe_lst (pa_cons (pv 5) pa_nil))) (pe_slice sl_list (pv 0) (po_some (pe_op op_add (pv 3) pe_int)) po_none)))))))), ?_⟩
    refine ⟨_, rfl, _, _, rfl, rfl, ⟨by decide, by decide⟩, _, rfl, q, _, rfl, .inl (SqL.of hq), _, _, rfl, rfl, (by show (0 : Int) < ((ss.map V.int).length : Nat); rw [List.length_map]; omega), ?_⟩
    have hz : ∃ n : Nat, n < ss.length ∧ c / 7 % (((ss.map V.int).length : Nat) : Int) = (n : Int) := by
      have h1 := Int.emod_nonneg (c / 7) (show (((ss.map V.int).length : Nat) : Int) ≠ 0 by rw [List.length_map]; omega)
      have h2 := Int.emod_lt_of_pos (c / 7) (show 0 < (((ss.map V.int).length : Nat) : Int) by rw [List.length_map]; omega)
      rw [List.length_map] at h1 h2 ⊢
      exact ⟨(c / 7 % (ss.length : Int)).toNat, by omega, by omega⟩
    obtain ⟨n, hn, en⟩ := hz
    dsimp only
    rw [en]
    have hbef : ∃ b : Int, b = ((ss.take n).getLast?).getD 0 := ⟨_, rfl⟩
    obtain ⟨b, eb⟩ := hbef
    have hb0 : 0 ≤ b := by
      rw [eb]
      cases e : (ss.take n).getLast? with
      | none => exact Int.le_refl _
      | some x =>
        have := hpos x (List.mem_of_mem_take (List.mem_of_getLast? e))
        show 0 ≤ x
        omega
    refine ⟨fun σ H' => H' = H ∧ σ = [some (.ref q), some (.int l), some (.int c), some (.int n), some (.int b), none], ?_, ?_⟩
    · refine ⟨_, rfl, _, _, rfl, rfl, _, rfl, ?_⟩
      refine iteD (fun h => ?_) (fun h => ?_)
      · obtain ⟨j, rfl⟩ : ∃ j, n = j + 1 := ⟨n - 1, by omega⟩
        obtain ⟨x, hx⟩ : ∃ x, ss[j]? = some x := ⟨_, List.getElem?_eq_getElem (by omega)⟩
        refine ⟨_, rfl, _, rfl, _, _, rfl, rfl, q, _, _, .int x, rfl, rfl, SqL.of hq, at_of (j := j) (by omega) (by rw [List.getElem?_map, hx]; rfl), rfl, ?_⟩
        have e2 : b = x := by
          rw [eb, List.take_succ, hx]
          simp
        rw [e2]; rfl
      · obtain rfl : n = 0 := by omega
        refine ⟨rfl, ?_⟩
        have e2 : b = 0 := by rw [eb]; rfl
        rw [e2]; rfl
    rintro σ H' ⟨rfl, rfl⟩
    -- the wrong one
    refine ⟨_, rfl, _, rfl, _, _, rfl, rfl, _, rfl, _, _, rfl, rfl, ⟨by decide, by decide⟩, _, _, rfl, rfl, (by show (0 : Int) < 5; decide), _, _, rfl, rfl, ?_⟩
    refine ⟨_, rfl, _, _, rfl, rfl, _, rfl, _, _, rfl, rfl, ⟨by decide, by decide⟩, _, _, rfl, rfl, (by show (0 : Int) < 50; decide), _, _, rfl, rfl, ?_⟩
    refine ⟨(by show 7 ≤ sizeLine; decide), fun t ht => ?_⟩
    refine ⟨_, rfl, _, _, rfl, rfl, (by show (0 : Int) < 7; decide), ?_⟩
    obtain ⟨v, hv, hm⟩ := pick (xs := [.int b, .int (b - 1 - c / 49 % 5), .int (l + 1 + c / 49 % 50), .bl true, .str "1", .int 0, .non]) (m := c % 7) (by omega) (by show c % 7 < 7; omega)
    have hkv : (∀ H, Kind K H v) ∧ isWh v (b + 1) l = false := by
      simp only [List.mem_cons, List.mem_nil_iff, or_false] at hm
      have bad : ∀ i : Int, ¬ (b + 1 ≤ i ∧ i ≤ l) → isWh (.int i) (b + 1) l = false := fun i hi => by
        show (decide (b + 1 ≤ i) && decide (i ≤ l)) = false
        by_cases h : b + 1 ≤ i
        · rw [decide_eq_false (show ¬ i ≤ l by omega)]; simp
        · rw [decide_eq_false h]; rfl
      rcases hm with rfl | rfl | rfl | rfl | rfl | rfl | rfl
      · exact ⟨fun _ => .int _, bad _ (by omega)⟩
      · exact ⟨fun _ => .int _, bad _ (by omega)⟩
      · exact ⟨fun _ => .int _, bad _ (by omega)⟩
      · exact ⟨fun _ => .bl _, rfl⟩
      · exact ⟨fun _ => .str _, rfl⟩
      · exact ⟨fun _ => .int _, bad _ (by omega)⟩
      · exact ⟨fun _ => .non, rfl⟩
    refine ⟨t, _, _, v, rfl, rfl, SqL.of upd_same, hv, ?_⟩
    have st := Same.new (u := .lst [.int b, .int (b - 1 - c / 49 % 5), .int (l + 1 + c / 49 % 50), .bl true, .str "1", .int 0, .non]) ht
    generalize hH1 : upd H' t _ = H1 at st
    -- sizes[:at] + [wrong] + sizes[at + 1:]
    refine ⟨_, rfl, _, rfl, _, rfl, q, _, rfl, SqL.of (st _ _ hq), fun a1 h1 => ?_⟩
    have st1 := Same.new (u := .lst (cutV (ss.map V.int) none (some (n : Int)))) h1
    refine ⟨_, rfl, (by show 1 ≤ sizeLine; decide), fun a2 h2 => ?_⟩
    have n12 : a1 ≠ a2 := fun e => by rw [← e, upd_same] at h2; cases h2
    refine ⟨a1, a2, _, _, rfl, rfl, (by rw [upd_ne n12]; exact upd_same), upd_same, ?_, fun a3 h3 => ?_⟩
    · rw [cut_to, List.length_take, List.length_map]
      exact Nat.le_trans (by show min n ss.length + 1 ≤ 9; omega) (by decide : 9 ≤ sizeLine)
    have st2 := Same.new (u := .lst [v]) h2
    have st3 := Same.new (u := .lst (cutV (ss.map V.int) none (some (n : Int)) ++ [v])) h3
    generalize hH3 : upd (upd (upd H1 a1 _) a2 _) a3 _ = H3 at st3
    have e3 : H3 a3 = some (.lst (cutV (ss.map V.int) none (some (n : Int)) ++ [v])) := by rw [← hH3]; exact upd_same
    have stA : Same H' H3 := ((st.trans st1).trans st2).trans st3
    refine ⟨_, rfl, _, rfl, _, _, rfl, rfl, _, rfl, q, _, rfl, SqL.of (stA _ _ hq), fun a4 h4 => ?_⟩
    have n34 : a3 ≠ a4 := fun e => by rw [← e, e3] at h4; cases h4
    refine ⟨a3, a4, _, _, rfl, rfl, (by rw [upd_ne n34]; exact e3), upd_same, ?_, fun a5 h5 => ?_⟩
    · rw [cut_to, List.length_append, List.length_take, List.length_map]
      have h6 := cutV_length (ss.map V.int) (some ((n : Int) + 1)) none
      rw [List.length_map] at h6
      refine Nat.le_trans (?_ : _ ≤ 18) (by decide : 18 ≤ sizeLine)
      show min n ss.length + 1 + _ ≤ 18
      omega
    have st4 := Same.new (u := .lst (cutV (ss.map V.int) (some ((n : Int) + 1)) none)) h4
    have st5 := Same.new (u := .lst (cutV (ss.map V.int) none (some (n : Int)) ++ [v] ++ cutV (ss.map V.int) (some ((n : Int) + 1)) none)) h5
    refine k a5 _ _ ((stA.trans st4).trans st5) upd_same ?_ ?_ ?_
    · rw [cut_to, List.length_append, List.length_append, List.length_take, List.length_map]
      have h6 := cutV_length (ss.map V.int) (some ((n : Int) + 1)) none
      rw [List.length_map] at h6
      show min n ss.length + 1 + _ ≤ 100
      omega
    · intro x hx
      rcases List.mem_append.mp hx with hx | hx
      · rcases List.mem_append.mp hx with hx | hx
        · obtain ⟨z, rfl⟩ := cut_mem hx; exact fun _ => .int z
        · rw [List.mem_singleton.mp hx]; exact hkv.1
      · obtain ⟨z, rfl⟩ := cut_mem hx; exact fun _ => .int z
    · rw [cut_to, List.append_assoc, ← List.map_take]
      refine Bool.eq_false_iff.mpr fun hr => ?_
      have := rises_bad (pre := ss.take n) (b := 0) hr
      rw [← eb, hkv.2] at this
      cases this
theorem ok_law_wrong (T : Tx K mg A) : Df P w K mg base 2 "_law_wrong" ["_law_pages", "_law_length", "_law_sizes", "_law_cell"] (sp_law_wrong K A) := by
  refine Dd.ok T.d_law_wrong sc_law_wrong bi_law_wrong (fun vs H Q E h => ?_) (fun f cdv Ar outer s H vs Q E hr h => ?_)
  · obtain ⟨q, ss, pg, l, c, rfl, _⟩ := h; rfl
  · obtain ⟨q, ss, pg, l, c, rfl, hq, g1, g2, l1, l2, s1, s8, hpos, c0, c4, k⟩ := h
    refine ⟨_, (pss_cons (ps_set (i := 4) sc_law_wrong.nd rfl (Or.inl rfl) (pe_op op_fdiv (pv 3) pe_int))
    (pss_cons (ps_if (pt_cmpR op_eq (pe_op op_mod (pv 3) pe_int) pe_int (nomark _)) (pss_one (ps_ret (pe_tup (pa_cons (pe_ix ix_list (pe_lst (pa_cons pe_int (pa_cons (pe_un un_neg (pv 4)) (pa_cons (pe_op op_add pe_int (pv 4)) (pa_cons pe_bl (pa_cons pe_str (pa_cons pe_non pa_nil))))))) (pe_op op_mod (pv 4) pe_int) (fun _ _ => rfl)) (pa_cons (pv 1) (pa_cons (pv 2) pa_nil))))))
    pss_nil)
    (pss_cons (ps_if (pt_cmpR op_eq (pe_op op_mod (pv 3) pe_int) pe_int (nomark _)) (pss_one (ps_ret (pe_tup (pa_cons (pv 0) (pa_cons (pe_ix ix_list (pe_lst (pa_cons pe_int (pa_cons (pe_un un_neg (pv 4)) (pa_cons (pe_op op_add pe_int (pv 4)) (pa_cons pe_bl (pa_cons pe_str (pa_cons pe_non pa_nil))))))) (pe_op op_mod (pv 4) pe_int) (fun _ _ => rfl)) (pa_cons (pv 2) pa_nil))))))
    pss_nil)
    (pss_cons (ps_if (pt_cmpR op_eq (pe_op op_mod (pv 4) pe_int) pe_int (nomark _)) (pss_one (ps_ret (pe_tup (pa_cons (pv 0) (pa_cons pe_int (pa_cons (pe_ix ix_list (pe_lst (pa_cons (pe_lst pa_nil) (pa_cons (pe_listRg rfl (by rfl) T.z_list (prg_2 (by rfl) T.z_range pe_int pe_int)) (pa_cons pe_str (pa_cons pe_non (pa_cons (pe_callTy call_tuple_of (by rfl) T.z_tuple (by decide +kernel) (pa_cons (pv 2) pa_nil)) (pa_cons (pe_callTy call_tuple_of (by rfl) T.z_tuple (by decide +kernel) (pa_cons (pv 2) pa_nil)) pa_nil))))))) (pe_op op_mod (pe_op op_fdiv (pv 4) pe_int) pe_int) (fun _ _ => rfl)) pa_nil))))))
    pss_nil)
    (pss_one (ps_ret (pe_tup (pa_cons (pv 0) (pa_cons (pv 1) (pa_cons (pe_df (ok_law_bad_sizes T) hr (by decide) (by rfl) (pa_cons (pv 2) (pa_cons (pv 1) (pa_cons (pe_op op_fdiv (pv 4) pe_int) pa_nil)))) pa_nil)))))))))), ?_⟩
    refine ⟨_, rfl, _, _, rfl, rfl, ⟨by decide, by decide⟩, ?_⟩
    have wh : ∀ x m : Int, ¬ (1 ≤ x ∧ x ≤ m) → isWh (.int x) 1 m = false := fun x m hi => by
      show (decide (1 ≤ x) && decide (x ≤ m)) = false
      by_cases h : 1 ≤ x
      · rw [decide_eq_false (show ¬ x ≤ m by omega)]; simp
      · rw [decide_eq_false h]; rfl
    have ksz : ∀ H', Same H H' → SzIs K H' (.ref q) (some (ss.map V.int)) := fun H' s => ⟨q, rfl, s _ _ hq, by rw [List.length_map]; omega, fun x hx => by
      obtain ⟨z, _, rfl⟩ := List.mem_map.mp hx
      exact .int z⟩
    refine ⟨_, rfl, _, _, rfl, rfl, (by show (0 : Int) < 4; decide), rfl, _, rfl, ?_⟩
    refine iteD (fun _ => ?_) (fun _ => ?_)
    · -- the pages
      refine ⟨_, rfl, _, rfl, _, rfl, _, _, rfl, rfl, (by show 6 ≤ sizeLine; decide), fun t ht => ?_⟩
      refine ⟨_, rfl, _, _, rfl, rfl, (by show (0 : Int) < 6; decide), ?_⟩
      obtain ⟨v, hv, hm⟩ := pick (xs := [.int 0, .int (-(c / 4)), .int (41 + c / 4), .bl true, .str "3", .non]) (m := c / 4 % 6) (by omega) (by show c / 4 % 6 < 6; omega)
      have hkv : (∀ H, Kind K H v) ∧ isWh v 1 40 = false := by
        simp only [List.mem_cons, List.mem_nil_iff, or_false] at hm
        rcases hm with rfl | rfl | rfl | rfl | rfl | rfl
        · exact ⟨fun _ => .int _, wh _ _ (by omega)⟩
        · exact ⟨fun _ => .int _, wh _ _ (by omega)⟩
        · exact ⟨fun _ => .int _, wh _ _ (by omega)⟩
        · exact ⟨fun _ => .bl _, rfl⟩
        · exact ⟨fun _ => .str _, rfl⟩
        · exact ⟨fun _ => .non, rfl⟩
      refine ⟨t, _, _, v, rfl, rfl, SqL.of upd_same, hv, ?_⟩
      refine ⟨_, rfl, _, rfl, (by show 3 ≤ sizeLine; decide), fun r hr => ?_⟩
      have sm := (Same.new (u := .lst [.int 0, .int (-(c / 4)), .int (41 + c / 4), .bl true, .str "3", .non]) ht).trans (Same.new (u := .tup [v, .int l, .ref q]) hr)
      refine k r _ v (.int l) (.ref q) _ sm upd_same (hkv.1 _) (.int l) (ksz _ sm) ?_
      unfold planOk
      rw [hkv.2]; rfl
    refine ⟨_, rfl, _, _, rfl, rfl, (by show (0 : Int) < 4; decide), rfl, _, rfl, ?_⟩
    refine iteD (fun _ => ?_) (fun _ => ?_)
    · -- the length
      refine ⟨_, rfl, _, rfl, _, rfl, _, rfl, _, _, rfl, rfl, (by show 6 ≤ sizeLine; decide), fun t ht => ?_⟩
      refine ⟨_, rfl, _, _, rfl, rfl, (by show (0 : Int) < 6; decide), ?_⟩
      obtain ⟨v, hv, hm⟩ := pick (xs := [.int 0, .int (-(c / 4)), .int (61 + c / 4), .bl true, .str "3", .non]) (m := c / 4 % 6) (by omega) (by show c / 4 % 6 < 6; omega)
      have hkv : (∀ H, Kind K H v) ∧ isWh v 1 60 = false := by
        simp only [List.mem_cons, List.mem_nil_iff, or_false] at hm
        rcases hm with rfl | rfl | rfl | rfl | rfl | rfl
        · exact ⟨fun _ => .int _, wh _ _ (by omega)⟩
        · exact ⟨fun _ => .int _, wh _ _ (by omega)⟩
        · exact ⟨fun _ => .int _, wh _ _ (by omega)⟩
        · exact ⟨fun _ => .bl _, rfl⟩
        · exact ⟨fun _ => .str _, rfl⟩
        · exact ⟨fun _ => .non, rfl⟩
      refine ⟨t, _, _, v, rfl, rfl, SqL.of upd_same, hv, ?_⟩
      refine ⟨_, rfl, (by show 3 ≤ sizeLine; decide), fun r hr => ?_⟩
      have sm := (Same.new (u := .lst [.int 0, .int (-(c / 4)), .int (61 + c / 4), .bl true, .str "3", .non]) ht).trans (Same.new (u := .tup [.int pg, v, .ref q]) hr)
      refine k r _ (.int pg) v (.ref q) _ sm upd_same (.int pg) (hkv.1 _) (ksz _ sm) ?_
      unfold planOk
      rw [hkv.2]; simp
    refine ⟨_, rfl, _, _, rfl, rfl, (by show (0 : Int) < 2; decide), rfl, _, rfl, ?_⟩
    refine iteD (fun _ => ?_) (fun _ => ?_)
    · -- the sizes, as a whole
      refine ⟨_, rfl, (by decide), fun a1 h1 => ?_⟩
      have t1 := Same.new (u := .lst []) h1
      refine ⟨_, _, rfl, rfl, RgOk.of_le (by decide) (by decide) (by decide) (by decide), fun a2 h2 => ?_⟩
      have t2 := Same.new (u := .lst (rgV 1 10)) h2
      generalize hH2 : upd (upd H a1 (.lst [])) a2 (.lst (rgV 1 10)) = H2 at t2
      have e1 : H2 a1 = some (.lst []) := t2 _ _ upd_same
      have e2 : H2 a2 = some (.lst (rgV 1 10)) := by rw [← hH2]; exact upd_same
      have t12 := t1.trans t2
      refine ⟨_, rfl, q, _, rfl, .inl ⟨SqL.of (t12 _ _ hq), fun a3 h3 => ?_⟩⟩
      have t3 := Same.new (u := .tup (ss.map V.int)) h3
      refine ⟨_, rfl, q, _, rfl, .inl ⟨SqL.of (t3 _ _ (t12 _ _ hq)), fun a4 h4 => ?_⟩⟩
      have t4 := Same.new (u := .tup (ss.map V.int)) h4
      have e4 : (upd (upd H2 a3 (.tup (ss.map V.int))) a4 (.tup (ss.map V.int))) a4 = some (.tup (ss.map V.int)) := upd_same
      have e3 : (upd (upd H2 a3 (.tup (ss.map V.int))) a4 (.tup (ss.map V.int))) a3 = some (.tup (ss.map V.int)) := t4 _ _ upd_same
      have t34 := t3.trans t4
      generalize upd (upd H2 a3 (.tup (ss.map V.int))) a4 (.tup (ss.map V.int)) = H4 at e4 e3 t4 t34
      refine ⟨(by show 6 ≤ sizeLine; decide), fun a5 h5 => ?_⟩
      refine ⟨_, rfl, _, _, rfl, rfl, ⟨by decide, by decide⟩, _, _, rfl, rfl, (by show (0 : Int) < 6; decide), ?_⟩
      obtain ⟨v, hv, hm⟩ := pick (xs := [.ref a1, .ref a2, .str "1", .non, .ref a3, .ref a4]) (m := c / 4 / 2 % 6) (by omega) (by show c / 4 / 2 % 6 < 6; omega)
      refine ⟨a5, _, _, v, rfl, rfl, SqL.of upd_same, hv, ?_⟩
      refine ⟨(by show 3 ≤ sizeLine; decide), fun r hr => ?_⟩
      have t5 := Same.new (u := .lst [.ref a1, .ref a2, .str "1", .non, .ref a3, .ref a4]) h5
      have t6 := Same.new (u := .tup [.int pg, .int 60, v]) hr
      have t46 := t5.trans t6
      have tall := (t12.trans t34).trans t46
      have fin : ∀ xs, SzIs K (upd (upd H4 a5 (.lst [.ref a1, .ref a2, .str "1", .non, .ref a3, .ref a4])) r (.tup [.int pg, .int 60, v])) v xs → szOk xs (.int 60) = false → Q (.ref r) (upd (upd H4 a5 (.lst [.ref a1, .ref a2, .str "1", .non, .ref a3, .ref a4])) r (.tup [.int pg, .int 60, v])) := fun xs hz hb => by
        refine k r _ (.int pg) (.int 60) v xs tall upd_same (.int pg) (.int 60) hz ?_
        unfold planOk
        rw [hb]; simp
      simp only [List.mem_cons, List.mem_nil_iff, or_false] at hm
      rcases hm with rfl | rfl | rfl | rfl | rfl | rfl
      · exact fin (some []) ⟨a1, rfl, t46 _ _ (t34 _ _ e1), by decide, fun x hx => nomatch hx⟩ rfl
      · refine fin (some (rgV 1 10)) ⟨a2, rfl, t46 _ _ (t34 _ _ e2), by decide, fun x hx => ?_⟩ (by decide)
        unfold rgV at hx
        obtain ⟨i, _, rfl⟩ := List.mem_map.mp hx
        exact .int _
      · exact fin none ⟨_, tStr, by decide, by decide⟩ rfl
      · exact fin none ⟨_, tNon, by decide, by decide⟩ rfl
      · exact fin none ⟨_, tTup (t46 _ _ e3), by decide, by decide⟩ rfl
      · exact fin none ⟨_, tTup (t46 _ _ e4), by decide, by decide⟩ rfl
    -- one of the sizes
    refine ⟨_, rfl, _, rfl, _, rfl, _, rfl, _, rfl, _, _, rfl, rfl, ⟨by decide, by decide⟩, ?_⟩
    refine ⟨q, ss, l, c / 4 / 2, rfl, hq, s1, s8, hpos, fun r H' xs sm hr hl hk hb => ?_⟩
    refine ⟨(by show 3 ≤ sizeLine; decide), fun t ht => ?_⟩
    have t6 := Same.new (u := .tup [.int pg, .int l, .ref r]) ht
    refine k t _ (.int pg) (.int l) (.ref r) (some xs) (sm.trans t6) upd_same (.int pg) (.int l) ⟨r, rfl, t6 _ _ hr, hl, fun x hx => hk x hx _⟩ ?_
    unfold planOk
    have e : szOk (some xs) (.int l) = false := by
      show (decide (1 ≤ xs.length) && decide (xs.length ≤ 8) && rises l 0 xs) = false
      rw [hb]; simp
    rw [e]; simp
theorem ok_law (T : Tx K mg A) {f : Addr} {fd : FuncData} (F : FnP K "law" "law" s_law f fd) : FnOk P w K mg base CX0 5 f fd ["_law_script"] (sp_law K A) := by
  refine L2.FunD.ok F sc_law (fun vs H Q E h => ?_) (fun cdv Ar outer s H vs Q E hr h => ?_)
  · obtain ⟨a, ns, rfl, _⟩ := h; rfl
  · obtain ⟨a, ns, rfl, hS, hlen, k⟩ := h
    refine ⟨_, (pss_cons (ps_set (i := 1) sc_law.nd rfl (Or.inl rfl) (pe_op op_add pe_int (pe_op op_mod (pe_df (ok_law_cell_at T) hr (by decide) (by rfl) (pa_cons (pv 0) (pa_cons pe_int pa_nil))) pe_int)))
    (pss_cons (ps_set (i := 2) sc_law.nd rfl (Or.inl rfl) (pe_op op_add pe_int (pe_op op_mod (pe_df (ok_law_cell_at T) hr (by decide) (by rfl) (pa_cons (pv 0) (pa_cons pe_int pa_nil))) pe_int)))
    (pss_cons (ps_set (i := 3) sc_law.nd rfl (Or.inl rfl) (pe_df (ok_law_sizes_by T) hr (by decide) (by rfl) (pa_cons (pe_df (ok_law_cell_at T) hr (by decide) (by rfl) (pa_cons (pv 0) (pa_cons pe_int pa_nil))) (pa_cons (pv 2) (pa_cons (pe_op op_add pe_int (pe_op op_mod (pe_df (ok_law_cell_at T) hr (by decide) (by rfl) (pa_cons (pv 0) (pa_cons pe_int pa_nil))) pe_int)) pa_nil)))))
    (pss_cons (ps_set (i := 4) sc_law.nd rfl (Or.inl rfl) (pe_op op_mod (pe_df (ok_law_cell_at T) hr (by decide) (by rfl) (pa_cons (pv 0) (pa_cons pe_int pa_nil))) pe_int))
    (pss_cons (ps_if (pt_cmpR op_gt (pe_op op_mod (pv 4) pe_int) pe_int (nomark _)) (pss_cons (ps_set (i := 5) sc_law.nd rfl (Or.inl rfl) (pe_df (ok_law_wrong T) hr (by decide) (by rfl) (pa_cons (pv 1) (pa_cons (pv 2) (pa_cons (pv 3) (pa_cons (pv 4) pa_nil))))))
    (pss_one (ps_ret (pe_df (ok_law_refused T) hr (by decide) (by rfl) (pa_cons (pe_ix ix_tup (pv 5) pe_int (fun _ _ => rfl)) (pa_cons (pe_ix ix_tup (pv 5) pe_int (fun _ _ => rfl)) (pa_cons (pe_ix ix_tup (pv 5) pe_int (fun _ _ => rfl)) (pa_cons (pe_df (ok_law_cell_at T) hr (by decide) (by rfl) (pa_cons (pv 0) (pa_cons pe_int pa_nil))) pa_nil))))))))
    pss_nil)
    (pss_cons (ps_set (i := 6) sc_law.nd rfl (Or.inl rfl) (pe_callTy call_list_of (by rfl) T.z_list (by decide +kernel) (pa_cons (pv 3) pa_nil)))
    (pss_cons (ps_set (i := 7) sc_law.nd rfl (Or.inl rfl) (pe_if (ok_Plan_init T) T.g_Plan hr (by decide) (by rfl) (pa_cons (pv 1) (pa_cons (pv 2) (pa_cons (pv 6) pa_nil)))))
    (pss_cons (ps_if (PW.pt (pw_or (pt_cmpR (op_neD hr.units) (pv 6) (pv 3) (nomark _)) (pw_or (pt_cmpR op_ne (pe_kint rfl T.k_MOST_PAGES) pe_int (nomark _)) (pw_or (pt_cmpR op_ne (pe_kint rfl T.k_MOST_LENGTH) pe_int (nomark _)) (pw_or1 (pt_cmpR op_ne (pe_kint rfl T.k_MOST_SIZES) pe_int (nomark _))))))) (pss_one (ps_ret pe_bl))
    pss_nil)
    (pss_cons (ps_expr (pe_bm PySem.F.plainAttrs_list PySem.F.slot_list_append PySem.F.type_list_append mt_append (pv 6) (pa_cons (pe_op op_add (pv 2) pe_int) pa_nil)))
    (pss_cons (ps_if (PW.pt (pw_or (pt_not (pt_val (pe_df (ok_law_whole T) hr (by decide) (by rfl) (pa_cons (pe_fld (pv 7) rfl) pa_nil)))) (pw_or (pt_not (pt_val (pe_df (ok_law_whole T) hr (by decide) (by rfl) (pa_cons (pe_fld (pv 7) rfl) pa_nil)))) (pw_or1 (pt_not (pt_val (pe_callB call_isi (by rfl) T.z_isinstance (by decide +kernel) (pa_cons (pe_fld (pv 7) rfl) (pa_cons (pe_bltn (v := .ty "list") (by rfl) T.z_list (by decide +kernel) rfl) pa_nil))))))))) (pss_one (ps_ret pe_bl))
    pss_nil)
    (pss_one (ps_ret (pe_and (pe_cmpR op_eq (pe_fld (pv 7) rfl) (pv 1) (nomark _)) (pe_and (pe_cmpR op_eq (pe_fld (pv 7) rfl) (pv 2) (nomark _)) (pe_one (pe_cmpR (op_eqD hr.units) (pe_fld (pv 7) rfl) (pv 3) (nomark _))))))))))))))))), ?_⟩
    refine ⟨_, rfl, a, ns, 0, rfl, hS, _, _, rfl, rfl, (by show (0 : Int) < 40; decide), _, _, rfl, rfl, ?_⟩
    refine ⟨_, rfl, a, ns, 1, rfl, hS, _, _, rfl, rfl, (by show (0 : Int) < 60; decide), _, _, rfl, rfl, ?_⟩
    -- the sizes
    refine ⟨_, rfl, a, ns, 2, rfl, hS, _, rfl, _, rfl, a, ns, 3, rfl, hS, _, _, rfl, rfl, (by show (0 : Int) < 8; decide), _, _, rfl, rfl, ?_⟩
    refine ⟨cellAt ns 2, 1 + cellAt ns 1 % 60, (1 + cellAt ns 3 % 8).toNat, ?_, by omega, by omega, by omega, fun q H1 hq s1 h1 => ?_⟩
    · rw [show (((1 + cellAt ns 3 % 8).toNat : Nat) : Int) = 1 + cellAt ns 3 % 8 by omega]; rfl
    have hok := sizesBy_ok (c := cellAt ns 2) (l := 1 + cellAt ns 1 % 60) (n := (1 + cellAt ns 3 % 8).toNat) (by omega) (by omega)
    have hn8 : (1 + cellAt ns 3 % 8).toNat ≤ 8 := by omega
    have g1 : 1 ≤ 1 + cellAt ns 0 % 40 := by omega
    have g2 : 1 + cellAt ns 0 % 40 ≤ 40 := by omega
    have l1 : 1 ≤ 1 + cellAt ns 1 % 60 := by omega
    have l2 : 1 + cellAt ns 1 % 60 ≤ 60 := by omega
    dsimp only
    generalize sizesBy (cellAt ns 2) (1 + cellAt ns 1 % 60) (1 + cellAt ns 3 % 8).toNat = ss at h1 hok
    generalize 1 + cellAt ns 1 % 60 = l at hok l1 l2 ⊢
    generalize 1 + cellAt ns 0 % 40 = pg at g1 g2 ⊢
    have hS1 := s1.seq hS
    refine ⟨_, rfl, a, ns, 4, rfl, hS1, _, _, rfl, rfl, (by show (0 : Int) < 4000; decide), ?_⟩
    refine ⟨_, rfl, _, _, rfl, rfl, (by show (0 : Int) < 4; decide), _, _, rfl, rfl, _, rfl, ?_⟩
    refine iteD (fun h => ?_) (fun _ => ?_)
    · -- a wrong one
      refine ⟨_, rfl, _, rfl, _, rfl, _, rfl, q, ss, pg, l, cellAt ns 4 % 4000, rfl, h1, g1, g2, l1, l2, hok.1, Nat.le_trans hok.2.1 hn8, (fun s hs => (hok.2.2.2 s hs).1), by omega, by omega, fun t H2 v1 v2 v3 xs s2 ht k1 k2 k3 hb => ?_⟩
      refine ⟨_, rfl, t, _, _, v1, rfl, rfl, SqT.of ht, rfl, _, rfl, t, _, _, v2, rfl, rfl, SqT.of ht, rfl, _, rfl, t, _, _, v3, rfl, rfl, SqT.of ht, rfl, ?_⟩
      refine ⟨_, rfl, a, ns, 5, rfl, s2.seq hS1, ?_⟩
      exact ⟨v1, v2, v3, xs, _, rfl, k1, k2, k3, hb, fun H' => k H'⟩
    -- a good one
    refine ⟨_, rfl, q, _, rfl, .inl (SqL.of h1), fun q2 hq2 => ?_⟩
    have nq : q ≠ q2 := fun e => by rw [e, hq2] at h1; cases h1
    have mok : (PlM.mk pg l ss).Ok := ⟨g1, g2, l1, l2, hok.1, Nat.le_trans hok.2.1 hn8, hok.2.2.2, hok.2.2.1⟩
    have s2 := Same.new (u := .lst (ss.map V.int)) hq2
    generalize hH2 : upd H1 q2 (.lst (ss.map V.int)) = H2 at s2
    have e2 : H2 q2 = some (.lst (ss.map V.int)) := by rw [← hH2]; exact upd_same
    have e1 : H2 q = some (.lst (ss.map V.int)) := s2 _ _ h1
    refine ⟨_, rfl, _, rfl, _, rfl, fun p dp np ndp nep => ?_⟩
    have s3 := Same.mk2 (C := A.Plan) np ndp
    refine ⟨p, dp, .int pg, .int l, .ref q2, some (ss.map V.int), rfl, .int _, .int _, ⟨q2, rfl, s3 _ _ e2, (by rw [List.length_map]; have := hok.2.1; omega), fun x hx => ?_⟩, upd_same, fun hf => ?_, fun m z H3 _ m1 m2 m3 hz S k3 => ⟨rfl, ?_⟩⟩
    · obtain ⟨i, _, rfl⟩ := List.mem_map.mp hx
      exact .int i
    · have := mok.good
      rw [this] at hf
      cases hf
    obtain ⟨mp, ml, ms⟩ := m
    have s4 : Same H2 H3 := Same.made np ndp k3
    have e32 := s4 _ _ e2
    have e31 := s4 _ _ e1
    have z2 : q2 ≠ z := by
      have := s3 _ _ e2
      exact ne_of_none this hz
    have z1 : q ≠ z := ne_of_none (s3 _ _ e1) hz
    obtain ⟨dx, oo⟩ := S.ob
    -- handed != sizes, the constants
    refine ⟨_, rfl, _, rfl, dInts ss, dInts ss, dp_ints (SqL.of e32), dp_ints (SqL.of e31), (sh_ints _).shaped (by decide), (sh_ints _).shaped (by decide), _, rfl, ?_⟩
    rw [(sh_ints _).refl]
    refine iteF ?_
    refine ⟨rfl, _, rfl, ?_⟩
    refine iteND (fun h => absurd rfl h) (fun _ => ?_)
    refine ⟨rfl, _, rfl, ?_⟩
    refine iteND (fun h => absurd rfl h) (fun _ => ?_)
    refine ⟨rfl, _, rfl, ?_⟩
    refine iteND (fun h => absurd rfl h) (fun _ => ?_)
    -- handed.append(length + 1)
    refine ⟨_, rfl, .inl ⟨rfl, _, SqL.of e32⟩, _, rfl, _, _, rfl, rfl, q2, _, _, rfl, rfl, e32, ?_, ?_⟩
    · rw [List.length_map]
      have := hok.2.1
      exact Nat.lt_of_le_of_lt (by omega : _ ≤ 8) (by decide)
    generalize hH4 : upd H3 q2 _ = H4
    have k4 : ∀ b o, H3 b = some o → b ≠ q2 → H4 b = some o := fun b o e n => by rw [← hH4, upd_ne n]; exact e
    have S4 : PlAt A H4 p z ⟨mp, ml, ms⟩ := S.keep fun b o e hb => k4 _ _ e (by
      rcases hb with h | h
      · rw [h]; exact ne_of oo e32 (by intro z; cases z)
      · rw [h]; exact z2.symm)
    have e41 : H4 q = some (.lst (ss.map V.int)) := k4 _ _ e31 nq
    obtain rfl : mp = pg := (V.int.inj m1).symm
    obtain rfl : ml = l := (V.int.inj m2).symm
    have e4 : ss = ms := (List.map_inj_right fun a b h => V.int.inj h).mp (Option.some.inj m3)
    subst e4
    -- the fields
    refine ⟨_, rfl, S4.fPages T ?_⟩
    refine ⟨.int _, "int", rfl, tInt, (by decide), _, rfl, iteF ?_⟩
    refine ⟨_, rfl, S4.fLength T ?_⟩
    refine ⟨.int _, "int", rfl, tInt, (by decide), _, rfl, iteF ?_⟩
    refine ⟨_, rfl, S4.fSizes T ?_⟩
    refine ⟨_, _, _, _, true, rfl, .ty _, tLst S4.sz, kit_ty (by decide +kernel), _, rfl, iteF ?_⟩
    refine ⟨_, rfl, S4.fPages T ?_⟩
    refine ⟨_, rfl, rfl, _, rfl, ?_⟩
    refine iteD (fun _ => ?_) (fun h => absurd rfl h)
    refine ⟨_, rfl, S4.fLength T ?_⟩
    refine ⟨_, rfl, rfl, _, rfl, ?_⟩
    refine iteD (fun _ => ?_) (fun h => absurd rfl h)
    refine ⟨_, rfl, S4.fSizes T ?_⟩
    refine ⟨_, rfl, _, _, dp_ints (SqL.of S4.sz), dp_ints (SqL.of e41), (sh_ints _).shaped (by decide), (sh_ints _).shaped (by decide), ?_⟩
    rw [(sh_ints _).refl]
    exact k _
end
end Sb
set_option maxHeartbeats 0
namespace Sb
open PySem PySem.W PySem.Calls PySem.Spec PyProof.Rows L2
def dd_is_whole : He.DefD := ⟨("is_whole", none), "is_whole", "is_whole", defArgs s_is_whole, defBody s_is_whole, defScope s_is_whole, [], []⟩
def dd_Plan_init : He.DefD := ⟨("Plan", some "__init__"), "__init__", "Plan.__init__", defArgs s_Plan_init, defBody s_Plan_init, defScope s_Plan_init, [], []⟩
def dd_law_cell_at : He.DefD := ⟨("_law_cell_at", none), "_law_cell_at", "_law_cell_at", defArgs s_law_cell_at, defBody s_law_cell_at, defScope s_law_cell_at, [], []⟩
def dd_law_whole : He.DefD := ⟨("_law_whole", none), "_law_whole", "_law_whole", defArgs s_law_whole, defBody s_law_whole, defScope s_law_whole, [], []⟩
def dd_law_sizes_by : He.DefD := ⟨("_law_sizes_by", none), "_law_sizes_by", "_law_sizes_by", defArgs s_law_sizes_by, defBody s_law_sizes_by, defScope s_law_sizes_by, [], []⟩
def dd_law_refused : He.DefD := ⟨("_law_refused", none), "_law_refused", "_law_refused", defArgs s_law_refused, defBody s_law_refused, defScope s_law_refused, [], []⟩
def dd_law_bad_sizes : He.DefD := ⟨("_law_bad_sizes", none), "_law_bad_sizes", "_law_bad_sizes", defArgs s_law_bad_sizes, defBody s_law_bad_sizes, defScope s_law_bad_sizes, [], []⟩
def dd_law_wrong : He.DefD := ⟨("_law_wrong", none), "_law_wrong", "_law_wrong", defArgs s_law_wrong, defBody s_law_wrong, defScope s_law_wrong, [], []⟩
def dd_law : He.DefD := ⟨("law", none), "law", "law", defArgs s_law, defBody s_law, defScope s_law, [], []⟩
def fn : List He.DefD := [dd_is_whole, dd_Plan_init, dd_law_cell_at, dd_law_whole, dd_law_sizes_by, dd_law_refused, dd_law_bad_sizes, dd_law_wrong, dd_law]
def fa : List He.Fa := [.free "ValueError", .free "bool", .free "int", .free "isinstance", .free "len", .free "list", .free "range", .free "tuple", .int "MOST_PAGES" 40, .int "MOST_LENGTH" 60, .int "MOST_SIZES" 8, .glo "RoomError", .exc "RoomError", .glo "BadPlan", .exc "BadPlan", .glo "BadWish", .exc "BadWish", .glo "TooLarge", .exc "TooLarge", .glo "NoSize", .exc "NoSize", .glo "NoRoom", .exc "NoRoom", .glo "NotOut", .exc "NotOut", .glo "OutOfThing", .exc "OutOfThing", .exm "BadPlan" "RoomError" true, .exm "BadPlan" "BadPlan" true, .exm "BadWish" "RoomError" true, .exm "BadWish" "BadPlan" false, .exm "TooLarge" "RoomError" true, .exm "TooLarge" "BadPlan" false, .exm "NoSize" "RoomError" true, .exm "NoSize" "BadPlan" false, .exm "NoRoom" "RoomError" true, .exm "NoRoom" "BadPlan" false, .exm "NotOut" "RoomError" true, .exm "NotOut" "BadPlan" false, .exm "OutOfThing" "RoomError" true, .exm "OutOfThing" "BadPlan" false, .cls "Plan", .glo "Plan", .noat "Plan" "pages", .noat "Plan" "length", .noat "Plan" "sizes", .glo "is_whole", .mkr "Plan", .glo "_law_cell_at", .glo "_law_whole", .glo "_law_sizes_by", .glo "_law_refused", .glo "_law_bad_sizes", .glo "_law_wrong", .glo "law"]
def fx : Fx := [excF "BadPlan", kitF "BadPlan" "BadWish" false, kitF "BadPlan" "TooLarge" false, kitF "BadPlan" "NoRoom" false, kitF "BadPlan" "NotOut" false, kitF "BadPlan" "OutOfThing" false, kitF "BadPlan" "NoSize" false, kitV "BadPlan" "ValueError" true, kitF "BadPlan" "BadPlan" true, excF "BadWish", kitF "BadWish" "BadWish" true, kitF "BadWish" "TooLarge" false, kitF "BadWish" "NoRoom" false, kitF "BadWish" "NotOut" false, kitF "BadWish" "OutOfThing" false, kitF "BadWish" "NoSize" false, kitV "BadWish" "ValueError" true, kitF "BadWish" "BadPlan" false, excF "TooLarge", kitF "TooLarge" "BadWish" false, kitF "TooLarge" "TooLarge" true, kitF "TooLarge" "NoRoom" false, kitF "TooLarge" "NotOut" false, kitF "TooLarge" "OutOfThing" false, kitF "TooLarge" "NoSize" false, kitV "TooLarge" "ValueError" true, kitF "TooLarge" "BadPlan" false, excF "NoSize", kitF "NoSize" "BadWish" false, kitF "NoSize" "TooLarge" false, kitF "NoSize" "NoRoom" false, kitF "NoSize" "NotOut" false, kitF "NoSize" "OutOfThing" false, kitF "NoSize" "NoSize" true, kitV "NoSize" "ValueError" true, kitF "NoSize" "BadPlan" false, excF "NoRoom", kitF "NoRoom" "BadWish" false, kitF "NoRoom" "TooLarge" false, kitF "NoRoom" "NoRoom" true, kitF "NoRoom" "NotOut" false, kitF "NoRoom" "OutOfThing" false, kitF "NoRoom" "NoSize" false, kitV "NoRoom" "ValueError" true, kitF "NoRoom" "BadPlan" false, excF "NotOut", kitF "NotOut" "BadWish" false, kitF "NotOut" "TooLarge" false, kitF "NotOut" "NoRoom" false, kitF "NotOut" "NotOut" true, kitF "NotOut" "OutOfThing" false, kitF "NotOut" "NoSize" false, kitV "NotOut" "ValueError" true, kitF "NotOut" "BadPlan" false, excF "OutOfThing", kitF "OutOfThing" "BadWish" false, kitF "OutOfThing" "TooLarge" false, kitF "OutOfThing" "NoRoom" false, kitF "OutOfThing" "NotOut" false, kitF "OutOfThing" "OutOfThing" true, kitF "OutOfThing" "NoSize" false, kitV "OutOfThing" "ValueError" true, kitF "OutOfThing" "BadPlan" false]
theorem facts {K : PySem.W.Frag} {h : Heap} {mg : Str → Option Value} (X : K.In h) (G : h.Ns mainGlobals mg) (c : He.SaysD fa fn K) (c2 : (fx.all fun f => f K) = true) : Tx K mg ⟨He.ga K "Plan", He.ga K "RoomError", He.ga K "BadPlan", He.ga K "BadWish", He.ga K "TooLarge", He.ga K "NoSize", He.ga K "NoRoom", He.ga K "NotOut", He.ga K "OutOfThing"⟩ where
  z_ValueError := He.free_ok X G (c.fact 0 (f := .free "ValueError") rfl)
  z_bool := He.free_ok X G (c.fact 1 (f := .free "bool") rfl)
  z_int := He.free_ok X G (c.fact 2 (f := .free "int") rfl)
  z_isinstance := He.free_ok X G (c.fact 3 (f := .free "isinstance") rfl)
  z_len := He.free_ok X G (c.fact 4 (f := .free "len") rfl)
  z_list := He.free_ok X G (c.fact 5 (f := .free "list") rfl)
  z_range := He.free_ok X G (c.fact 6 (f := .free "range") rfl)
  z_tuple := He.free_ok X G (c.fact 7 (f := .free "tuple") rfl)
  k_MOST_PAGES := He.int_ok X G (c.fact 8 (f := .int "MOST_PAGES" 40) rfl)
  k_MOST_LENGTH := He.int_ok X G (c.fact 9 (f := .int "MOST_LENGTH" 60) rfl)
  k_MOST_SIZES := He.int_ok X G (c.fact 10 (f := .int "MOST_SIZES" 8) rfl)
  e_RoomError := (have z := He.exc_ok (c.fact 12 (f := .exc "RoomError") rfl); ⟨He.glo_ok X G (c.fact 11 (f := .glo "RoomError") rfl), z.1, z.2.1, z.2.2.1, z.2.2.2⟩)
  e_BadPlan := (have z := He.exc_ok (c.fact 14 (f := .exc "BadPlan") rfl); ⟨He.glo_ok X G (c.fact 13 (f := .glo "BadPlan") rfl), z.1, z.2.1, z.2.2.1, z.2.2.2⟩)
  e_BadWish := (have z := He.exc_ok (c.fact 16 (f := .exc "BadWish") rfl); ⟨He.glo_ok X G (c.fact 15 (f := .glo "BadWish") rfl), z.1, z.2.1, z.2.2.1, z.2.2.2⟩)
  e_TooLarge := (have z := He.exc_ok (c.fact 18 (f := .exc "TooLarge") rfl); ⟨He.glo_ok X G (c.fact 17 (f := .glo "TooLarge") rfl), z.1, z.2.1, z.2.2.1, z.2.2.2⟩)
  e_NoSize := (have z := He.exc_ok (c.fact 20 (f := .exc "NoSize") rfl); ⟨He.glo_ok X G (c.fact 19 (f := .glo "NoSize") rfl), z.1, z.2.1, z.2.2.1, z.2.2.2⟩)
  e_NoRoom := (have z := He.exc_ok (c.fact 22 (f := .exc "NoRoom") rfl); ⟨He.glo_ok X G (c.fact 21 (f := .glo "NoRoom") rfl), z.1, z.2.1, z.2.2.1, z.2.2.2⟩)
  e_NotOut := (have z := He.exc_ok (c.fact 24 (f := .exc "NotOut") rfl); ⟨He.glo_ok X G (c.fact 23 (f := .glo "NotOut") rfl), z.1, z.2.1, z.2.2.1, z.2.2.2⟩)
  e_OutOfThing := (have z := He.exc_ok (c.fact 26 (f := .exc "OutOfThing") rfl); ⟨He.glo_ok X G (c.fact 25 (f := .glo "OutOfThing") rfl), z.1, z.2.1, z.2.2.1, z.2.2.2⟩)
  x_BadPlan_RoomError := He.exm_ok (c.fact 27 (f := .exm "BadPlan" "RoomError" true) rfl)
  x_BadPlan_BadPlan := He.exm_ok (c.fact 28 (f := .exm "BadPlan" "BadPlan" true) rfl)
  x_BadWish_RoomError := He.exm_ok (c.fact 29 (f := .exm "BadWish" "RoomError" true) rfl)
  x_BadWish_BadPlan := He.exm_ok (c.fact 30 (f := .exm "BadWish" "BadPlan" false) rfl)
  x_TooLarge_RoomError := He.exm_ok (c.fact 31 (f := .exm "TooLarge" "RoomError" true) rfl)
  x_TooLarge_BadPlan := He.exm_ok (c.fact 32 (f := .exm "TooLarge" "BadPlan" false) rfl)
  x_NoSize_RoomError := He.exm_ok (c.fact 33 (f := .exm "NoSize" "RoomError" true) rfl)
  x_NoSize_BadPlan := He.exm_ok (c.fact 34 (f := .exm "NoSize" "BadPlan" false) rfl)
  x_NoRoom_RoomError := He.exm_ok (c.fact 35 (f := .exm "NoRoom" "RoomError" true) rfl)
  x_NoRoom_BadPlan := He.exm_ok (c.fact 36 (f := .exm "NoRoom" "BadPlan" false) rfl)
  x_NotOut_RoomError := He.exm_ok (c.fact 37 (f := .exm "NotOut" "RoomError" true) rfl)
  x_NotOut_BadPlan := He.exm_ok (c.fact 38 (f := .exm "NotOut" "BadPlan" false) rfl)
  x_OutOfThing_RoomError := He.exm_ok (c.fact 39 (f := .exm "OutOfThing" "RoomError" true) rfl)
  x_OutOfThing_BadPlan := He.exm_ok (c.fact 40 (f := .exm "OutOfThing" "BadPlan" false) rfl)
  xc_BadPlan := excF_ok (fx_at c2 0 (f := excF "BadPlan") rfl)
  kt_BadPlan_BadWish := kitF_ok (fx_at c2 1 (f := kitF "BadPlan" "BadWish" false) rfl)
  kt_BadPlan_TooLarge := kitF_ok (fx_at c2 2 (f := kitF "BadPlan" "TooLarge" false) rfl)
  kt_BadPlan_NoRoom := kitF_ok (fx_at c2 3 (f := kitF "BadPlan" "NoRoom" false) rfl)
  kt_BadPlan_NotOut := kitF_ok (fx_at c2 4 (f := kitF "BadPlan" "NotOut" false) rfl)
  kt_BadPlan_OutOfThing := kitF_ok (fx_at c2 5 (f := kitF "BadPlan" "OutOfThing" false) rfl)
  kt_BadPlan_NoSize := kitF_ok (fx_at c2 6 (f := kitF "BadPlan" "NoSize" false) rfl)
  kt_BadPlan_ValueError := kitV_ok (fx_at c2 7 (f := kitV "BadPlan" "ValueError" true) rfl)
  kt_BadPlan_BadPlan := kitF_ok (fx_at c2 8 (f := kitF "BadPlan" "BadPlan" true) rfl)
  xc_BadWish := excF_ok (fx_at c2 9 (f := excF "BadWish") rfl)
  kt_BadWish_BadWish := kitF_ok (fx_at c2 10 (f := kitF "BadWish" "BadWish" true) rfl)
  kt_BadWish_TooLarge := kitF_ok (fx_at c2 11 (f := kitF "BadWish" "TooLarge" false) rfl)
  kt_BadWish_NoRoom := kitF_ok (fx_at c2 12 (f := kitF "BadWish" "NoRoom" false) rfl)
  kt_BadWish_NotOut := kitF_ok (fx_at c2 13 (f := kitF "BadWish" "NotOut" false) rfl)
  kt_BadWish_OutOfThing := kitF_ok (fx_at c2 14 (f := kitF "BadWish" "OutOfThing" false) rfl)
  kt_BadWish_NoSize := kitF_ok (fx_at c2 15 (f := kitF "BadWish" "NoSize" false) rfl)
  kt_BadWish_ValueError := kitV_ok (fx_at c2 16 (f := kitV "BadWish" "ValueError" true) rfl)
  kt_BadWish_BadPlan := kitF_ok (fx_at c2 17 (f := kitF "BadWish" "BadPlan" false) rfl)
  xc_TooLarge := excF_ok (fx_at c2 18 (f := excF "TooLarge") rfl)
  kt_TooLarge_BadWish := kitF_ok (fx_at c2 19 (f := kitF "TooLarge" "BadWish" false) rfl)
  kt_TooLarge_TooLarge := kitF_ok (fx_at c2 20 (f := kitF "TooLarge" "TooLarge" true) rfl)
  kt_TooLarge_NoRoom := kitF_ok (fx_at c2 21 (f := kitF "TooLarge" "NoRoom" false) rfl)
  kt_TooLarge_NotOut := kitF_ok (fx_at c2 22 (f := kitF "TooLarge" "NotOut" false) rfl)
  kt_TooLarge_OutOfThing := kitF_ok (fx_at c2 23 (f := kitF "TooLarge" "OutOfThing" false) rfl)
  kt_TooLarge_NoSize := kitF_ok (fx_at c2 24 (f := kitF "TooLarge" "NoSize" false) rfl)
  kt_TooLarge_ValueError := kitV_ok (fx_at c2 25 (f := kitV "TooLarge" "ValueError" true) rfl)
  kt_TooLarge_BadPlan := kitF_ok (fx_at c2 26 (f := kitF "TooLarge" "BadPlan" false) rfl)
  xc_NoSize := excF_ok (fx_at c2 27 (f := excF "NoSize") rfl)
  kt_NoSize_BadWish := kitF_ok (fx_at c2 28 (f := kitF "NoSize" "BadWish" false) rfl)
  kt_NoSize_TooLarge := kitF_ok (fx_at c2 29 (f := kitF "NoSize" "TooLarge" false) rfl)
  kt_NoSize_NoRoom := kitF_ok (fx_at c2 30 (f := kitF "NoSize" "NoRoom" false) rfl)
  kt_NoSize_NotOut := kitF_ok (fx_at c2 31 (f := kitF "NoSize" "NotOut" false) rfl)
  kt_NoSize_OutOfThing := kitF_ok (fx_at c2 32 (f := kitF "NoSize" "OutOfThing" false) rfl)
  kt_NoSize_NoSize := kitF_ok (fx_at c2 33 (f := kitF "NoSize" "NoSize" true) rfl)
  kt_NoSize_ValueError := kitV_ok (fx_at c2 34 (f := kitV "NoSize" "ValueError" true) rfl)
  kt_NoSize_BadPlan := kitF_ok (fx_at c2 35 (f := kitF "NoSize" "BadPlan" false) rfl)
  xc_NoRoom := excF_ok (fx_at c2 36 (f := excF "NoRoom") rfl)
  kt_NoRoom_BadWish := kitF_ok (fx_at c2 37 (f := kitF "NoRoom" "BadWish" false) rfl)
  kt_NoRoom_TooLarge := kitF_ok (fx_at c2 38 (f := kitF "NoRoom" "TooLarge" false) rfl)
  kt_NoRoom_NoRoom := kitF_ok (fx_at c2 39 (f := kitF "NoRoom" "NoRoom" true) rfl)
  kt_NoRoom_NotOut := kitF_ok (fx_at c2 40 (f := kitF "NoRoom" "NotOut" false) rfl)
  kt_NoRoom_OutOfThing := kitF_ok (fx_at c2 41 (f := kitF "NoRoom" "OutOfThing" false) rfl)
  kt_NoRoom_NoSize := kitF_ok (fx_at c2 42 (f := kitF "NoRoom" "NoSize" false) rfl)
  kt_NoRoom_ValueError := kitV_ok (fx_at c2 43 (f := kitV "NoRoom" "ValueError" true) rfl)
  kt_NoRoom_BadPlan := kitF_ok (fx_at c2 44 (f := kitF "NoRoom" "BadPlan" false) rfl)
  xc_NotOut := excF_ok (fx_at c2 45 (f := excF "NotOut") rfl)
  kt_NotOut_BadWish := kitF_ok (fx_at c2 46 (f := kitF "NotOut" "BadWish" false) rfl)
  kt_NotOut_TooLarge := kitF_ok (fx_at c2 47 (f := kitF "NotOut" "TooLarge" false) rfl)
  kt_NotOut_NoRoom := kitF_ok (fx_at c2 48 (f := kitF "NotOut" "NoRoom" false) rfl)
  kt_NotOut_NotOut := kitF_ok (fx_at c2 49 (f := kitF "NotOut" "NotOut" true) rfl)
  kt_NotOut_OutOfThing := kitF_ok (fx_at c2 50 (f := kitF "NotOut" "OutOfThing" false) rfl)
  kt_NotOut_NoSize := kitF_ok (fx_at c2 51 (f := kitF "NotOut" "NoSize" false) rfl)
  kt_NotOut_ValueError := kitV_ok (fx_at c2 52 (f := kitV "NotOut" "ValueError" true) rfl)
  kt_NotOut_BadPlan := kitF_ok (fx_at c2 53 (f := kitF "NotOut" "BadPlan" false) rfl)
  xc_OutOfThing := excF_ok (fx_at c2 54 (f := excF "OutOfThing") rfl)
  kt_OutOfThing_BadWish := kitF_ok (fx_at c2 55 (f := kitF "OutOfThing" "BadWish" false) rfl)
  kt_OutOfThing_TooLarge := kitF_ok (fx_at c2 56 (f := kitF "OutOfThing" "TooLarge" false) rfl)
  kt_OutOfThing_NoRoom := kitF_ok (fx_at c2 57 (f := kitF "OutOfThing" "NoRoom" false) rfl)
  kt_OutOfThing_NotOut := kitF_ok (fx_at c2 58 (f := kitF "OutOfThing" "NotOut" false) rfl)
  kt_OutOfThing_OutOfThing := kitF_ok (fx_at c2 59 (f := kitF "OutOfThing" "OutOfThing" true) rfl)
  kt_OutOfThing_NoSize := kitF_ok (fx_at c2 60 (f := kitF "OutOfThing" "NoSize" false) rfl)
  kt_OutOfThing_ValueError := kitV_ok (fx_at c2 61 (f := kitV "OutOfThing" "ValueError" true) rfl)
  kt_OutOfThing_BadPlan := kitF_ok (fx_at c2 62 (f := kitF "OutOfThing" "BadPlan" false) rfl)
  c_Plan := He.cls_ok (c.fact 41 (f := .cls "Plan") rfl)
  g_Plan := He.glo_ok X G (c.fact 42 (f := .glo "Plan") rfl)
  n_Plan_pages := He.noat_ok (c.fact 43 (f := .noat "Plan" "pages") rfl)
  n_Plan_length := He.noat_ok (c.fact 44 (f := .noat "Plan" "length") rfl)
  n_Plan_sizes := He.noat_ok (c.fact 45 (f := .noat "Plan" "sizes") rfl)
  d_is_whole := (have z := c.def_ 0 (d := dd_is_whole) rfl; z.elim fun fd F => ⟨_, fd, He.glo_ok X G (c.fact 46 (f := .glo "is_whole") rfl), F⟩)
  d_Plan_init := (have z := c.def_ 1 (d := dd_Plan_init) rfl; z.elim fun fd F => ⟨_, fd, He.mkr_ok (c.fact 47 (f := .mkr "Plan") rfl), F⟩)
  d_law_cell_at := (have z := c.def_ 2 (d := dd_law_cell_at) rfl; z.elim fun fd F => ⟨_, fd, He.glo_ok X G (c.fact 48 (f := .glo "_law_cell_at") rfl), F⟩)
  d_law_whole := (have z := c.def_ 3 (d := dd_law_whole) rfl; z.elim fun fd F => ⟨_, fd, He.glo_ok X G (c.fact 49 (f := .glo "_law_whole") rfl), F⟩)
  d_law_sizes_by := (have z := c.def_ 4 (d := dd_law_sizes_by) rfl; z.elim fun fd F => ⟨_, fd, He.glo_ok X G (c.fact 50 (f := .glo "_law_sizes_by") rfl), F⟩)
  d_law_refused := (have z := c.def_ 5 (d := dd_law_refused) rfl; z.elim fun fd F => ⟨_, fd, He.glo_ok X G (c.fact 51 (f := .glo "_law_refused") rfl), F⟩)
  d_law_bad_sizes := (have z := c.def_ 6 (d := dd_law_bad_sizes) rfl; z.elim fun fd F => ⟨_, fd, He.glo_ok X G (c.fact 52 (f := .glo "_law_bad_sizes") rfl), F⟩)
  d_law_wrong := (have z := c.def_ 7 (d := dd_law_wrong) rfl; z.elim fun fd F => ⟨_, fd, He.glo_ok X G (c.fact 53 (f := .glo "_law_wrong") rfl), F⟩)
  d_law := (have z := c.def_ 8 (d := dd_law) rfl; z.elim fun fd F => ⟨_, fd, He.glo_ok X G (c.fact 54 (f := .glo "law") rfl), F⟩)
abbrev R : PySem.W.OpenRow := PySem.W.OpenLaw.row PySem.Challenge.rw_slabroom_k02_plans
abbrev hk : PySem.W.Hook := hook2 4 fa fn fx
def ob (s : PySem.W.SharedT) : He.AlD × Bool := obs2G 4 fa fn fx (HandSHeadRun.getT s)
theorem ob_eq (s : PySem.W.SharedT) : ob s = hk.obs s.abs := obs2G_eq (HandSHeadRun.getT_eq s)
def names : List PySem.Str := (["_wall", "RoomError", "BadPlan", "BadWish", "TooLarge", "NoSize", "NoRoom", "NotOut", "OutOfThing", "MOST_PAGES", "MOST_LENGTH", "MOST_SIZES", "is_whole", "Plan", "_law_cell_at", "_law_whole", "_law_sizes_by", "_law_refused", "_law_bad_sizes", "_law_wrong"] : List PySem.Str)
theorem run (w : World) : HandSHeadRun.RunEq R (PySem.W.view R.prog [23]) hk ob 4000 names w := by
  intro os
  kernel_rfl
end Sb
open PySem PySem.W PySem.Calls PyProof.Rows in
set_option maxRecDepth 100000 in
set_option maxHeartbeats 0 in
theorem PySem.Challenge.cw_slabroom_k02_plans_holds : PySem.Challenge.rw_slabroom_k02_plans.Holds := by
  w_on; o_law
  refine HandSHeadRun.head_any (r := OpenLaw.row PySem.Challenge.rw_slabroom_k02_plans) (q := view (OpenLaw.row PySem.Challenge.rw_slabroom_k02_plans).prog [23]) (H := Sb.hk) (ob := Sb.ob) (M := 4000) (loose := Sb.names) (d := HandSHeadRun.topDef (OpenLaw.row PySem.Challenge.rw_slabroom_k02_plans).prog 23) (kwd := []) Sb.ob_eq
    (by kernel_rfl) (fun s => by kernel_rfl) Sb.run (by kernel_rfl) (by kernel_rfl) (by kernel_rfl) (by rfl) (by first | assumption | decide +kernel) (by decide +kernel) ⟨rfl, rfl, rfl, rfl, rfl, by decide +kernel⟩ ?hw ?hc
  case hw => w_witness2
  case hc =>
    refine L2.walk_ofE (l := PySem.Challenge.rw_slabroom_k02_plans) (n := 63) (k := 5) (x := "_law_script") (CX := L2.CX0) rfl (by decide) (by kernel_rfl) ⟨rfl, by decide, by decide⟩ ?F (fun _ _ _ _ z => z)
    intro w mg fa h Y G hmg0
    obtain ⟨K, KX, c⟩ := Y
    have hmg : mg ("law" : PySem.Str) = some (.ref fa) := by
      have e : (HandSHeadRun.topDef (OpenLaw.row PySem.Challenge.rw_slabroom_k02_plans).prog 23).name = ("law" : PySem.Str) := by kernel_rfl
      rw [← e]
      exact hmg0
    have T := Sb.facts KX G (congrArg Prod.fst c) (congrArg Prod.snd c)
    obtain ⟨f, fd, g, F⟩ := T.d_law
    have e := hmg.symm.trans g
    cases e
    refine ⟨K, fd, Sb.sp_law K _, KX, fun s u => L2.FunD.bindsA F Sb.bi_law s [u] rfl, fun H a ns hl _ hS => ⟨a, ns, rfl, hS, hl, fun _ => rfl⟩, fun base _ _ => Sb.ok_law T F⟩
#print axioms PySem.Challenge.cw_slabroom_k02_plans_holds
