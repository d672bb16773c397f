import PyProof.Rows.All
import Wide.All
import OpenK.AllK
import Wide.FinOn
import HandS.ForMost
import HandS.ForExc
import HandS.Defaults
import HandS.IsInst
import HandS.TryMany
import HandS.ExcIs
import HandS.SetFor
import HandS.Conv
import HandS.SortInts
import HandS.SortRule
import HandS.SortKw
import HandS.Deep
import HandS.More
import HandS.Evl
import HandS.Head0
import HandS.Head1
import HandS.Head2
import HandS.HeadEnd
import HandS.HeadHook1
import HandS.HeadHook2
import PySem.Challenge.RW_slabroom_k01_size_for
set_option Elab.async false
set_option linter.all false
set_option maxRecDepth 100000
set_option maxHeartbeats 4000000
/-! The prelude of every claim of this seat: defs, methods, classes and errors of the text in one word each. -/
namespace Sb
open PySem PySem.Spec PyProof.Rows L2

abbrev FnP (K : PySem.W.Frag) (x qual : Str) (st : Stmt) (f : Addr) (fd : FuncData) : Prop :=
  L2.FunD K x qual (defArgs st) (defBody st) (defScope st) [] [] f fd
/-- st stands as the module's def x -/
def Dd (K : PySem.W.Frag) (mg : Str → Option Value) (x : Str) (st : Stmt) : Prop :=
  ∃ f fd, mg x = some (.ref f) ∧ FnP K x x st f fd
/-- st stands as the method m of the class at C -/
def Dm (K : PySem.W.Frag) (C : Addr) (m qual : Str) (st : Stmt) : Prop :=
  ∃ f fd, Meth K C m f ∧ FnP K m qual st f fd
/-- st is what makes the instances of the class at C -/
def Di (K : PySem.W.Frag) (C : Addr) (qual : Str) (st : Stmt) : Prop :=
  ∃ f fd, Mk K C f ∧ FnP K "__init__" qual st f fd

section
variable (P : Program) (w : World) (K : PySem.W.Frag) (mg : Str → Option Value) (base : Heap)
/-- the module's def x keeps the promise sp, by at most level k -/
def Df (k : Nat) (x : Str) (ps : List Str) (sp : Sp) : Prop :=
  ∃ f fd, mg x = some (.ref f) ∧ PySem.W.keepIn K (.ref f) = true ∧ FnOk P w K mg base (L2.CX P w) k f fd ps sp ∧ Binds K fd ps []
def Mf (k : Nat) (C : Addr) (m : Str) (ps : List Str) (sp : Sp) : Prop :=
  ∃ f fd, Meth K C m f ∧ FnOk P w K mg base (L2.CX P w) k f fd ps sp ∧ Binds K fd ps []
def If_ (k : Nat) (C : Addr) (ps : List Str) (sp : Sp) : Prop :=
  ∃ f fd, Mk K C f ∧ FnOk P w K mg base (L2.CX P w) k f fd ps sp ∧ Binds K fd ps []
end
/-- how the arguments bind to the parameters -/
def BindOk (ps : List Str) (x qual : Str) (st : Stmt) : Prop :=
  ∀ (kV doc pm : Value) (an : Option Addr) (cdv ct : Value) (us : List Value), us.length = ps.length →
    bindArgs (PySem.W.fnOf x qual (defArgs st) (defBody st) (defScope st) .none kV doc pm an cdv ct) ⟨us, []⟩ = pure (ps.zip us)
/-- what is to be shown of a def's body -/
def BodyOk (P : Program) (w : World) (K : PySem.W.Frag) (mg : Str → Option Value) (base : Heap) (k : Nat) (N : List Str) (qual : Str) (st : Stmt) (sp : Sp) : Prop :=
  ∀ (f : Addr) (cdv : Value) (A : Around) (outer : List Env) (s : Shared) (H : Hp) (vs : List V) (Q : VK) (E : XK),
    Room k (A.deeper (envOfC qual (defScope st) s.heap.objs.size f cdv)) → sp vs H Q E →
      ∃ t, PSs (cxOf (L2.CX P w) P w K mg base N qual (defScope st) f cdv A outer s H E) (defBody st) t ∧ t { nx := fun _ H' => Q .non H', rt := Q } (start N vs) H
section
variable {P : Program} {w : World} {K : PySem.W.Frag} {mg : Str → Option Value} {base : Heap} {x m qual : Str} {st : Stmt} {N ps : List Str} {k : Nat} {sp : Sp} {C : Addr}
theorem Dd.ok (D : Dd K mg x st) (S : FnScope N ps (defScope st)) (b : BindOk ps x x st) (len : ∀ vs H Q E, sp vs H Q E → vs.length = ps.length) (body : BodyOk P w K mg base k N x st sp) : Df P w K mg base (k + 1) x ps sp := by
  obtain ⟨f, fd, g, F⟩ := D
  exact ⟨f, fd, g, F.kp, L2.FunD.ok F S len (body f), L2.FunD.bindsN F b⟩
theorem Dm.ok (D : Dm K C m qual st) (S : FnScope N ps (defScope st)) (b : BindOk ps m qual st) (len : ∀ vs H Q E, sp vs H Q E → vs.length = ps.length) (body : BodyOk P w K mg base k N qual st sp) : Mf P w K mg base (k + 1) C m ps sp := by
  obtain ⟨f, fd, g, F⟩ := D
  exact ⟨f, fd, g, L2.FunD.ok F S len (body f), L2.FunD.bindsN F b⟩
theorem Di.ok (D : Di K C qual st) (S : FnScope N ps (defScope st)) (b : BindOk ps "__init__" qual st) (len : ∀ vs H Q E, sp vs H Q E → vs.length = ps.length) (body : BodyOk P w K mg base k N qual st sp) : If_ P w K mg base (k + 1) C ps sp := by
  obtain ⟨f, fd, g, F⟩ := D
  exact ⟨f, fd, g, L2.FunD.ok F S len (body f), L2.FunD.bindsN F b⟩
end

/-! ### calls -/
section
variable {X : Cx} {k j : Nat} {x m : Str} {ps : List Str} {sp : Sp} {C : Addr} {e o : Expr} {es : List Expr} {t : TA} {ta : TE} {p pos apos : Pos}
/-- f(e, ..), nothing let out -/
theorem pe_df (D : Df X.prog X.w X.K X.mg X.base k x ps sp) (hr : Room j X.A) (hk : k ≤ j) (hg : Gl X x) (ha : PA X (e :: es) t) (hdb : (x == ("__debug__" : Str)) = false := by decide)
    (he : starEach (e :: es) X.env = (false, eval e X.env) :: starEach es X.env := by rfl) (hpl : (backTo pos (starEach es X.env)).any (·.1) = false := by rfl) : PE X (.Call (.Name x p) (e :: es) [] pos) (tCall sp [] E0 t) := by
  obtain ⟨f, fd, g, kp, F, b⟩ := D
  exact pe_call F (hr.mono hk) hg g kp b .nil passL ha hdb he hpl
/-- f(e, ..) that may raise -/
theorem pe_dfS {W : WX} (D : Df X.prog X.w X.K X.mg X.base k x ps sp) (hr : Room j X.A) (hk : k ≤ j) (hg : Gl X x) (tk : Takes X W) (ha : PA X (e :: es) t) (hdb : (x == ("__debug__" : Str)) = false := by decide)
    (he : starEach (e :: es) X.env = (false, eval e X.env) :: starEach es X.env := by rfl) (hpl : (backTo pos (starEach es X.env)).any (·.1) = false := by rfl) : PE X (.Call (.Name x p) (e :: es) [] pos) (tCallS sp (WE W) t) := by
  obtain ⟨f, fd, g, kp, F, b⟩ := D
  exact pe_callS F (hr.mono hk) hg g kp b (fun σ => passAt tk σ) ha hdb he hpl
/-- o.m(e, ..), nothing let out -/
theorem pe_mf {pl : Sem Bool} (D : Mf X.prog X.w X.K X.mg X.base k C m ps sp) (c : Cls X.K C) (hr : Room j X.A) (hk : k ≤ j) (he : PE X o ta) (ha : PA X (e :: es) t)
    (hst : starEach (e :: es) X.env = (false, eval e X.env) :: starEach es X.env := by rfl) (hpl : (backTo pos (starEach es X.env)).any (·.1) = false := by rfl)
    (ht : eval (.Call (.Attribute o m apos) (e :: es) [] pos) X.env = (do let ov ← eval o X.env; standAt apos.atName; let (f, first) ← holding [ov] (getMethod ov m pl); callWith pos f first (backTo pos (starEach (e :: es) X.env)) (backToKw pos (keywordEach [] X.env))) := by rfl) :
    PE X (.Call (.Attribute o m apos) (e :: es) [] pos) (tMeth C m sp [] E0 ta t) := by
  obtain ⟨f, fd, g, F, b⟩ := D
  exact pe_meth he c g F (hr.mono hk) b .nil passL ha hst hpl ht
theorem pe_mf0 {pl : Sem Bool} (D : Mf X.prog X.w X.K X.mg X.base k C m ps sp) (c : Cls X.K C) (hr : Room j X.A) (hk : k ≤ j) (he : PE X o ta)
    (ht : eval (.Call (.Attribute o m apos) [] [] pos) X.env = (do let ov ← eval o X.env; standAt apos.atName; let (f, first) ← holding [ov] (getMethod ov m pl); callWith pos f first (backTo pos (starEach [] X.env)) (backToKw pos (keywordEach [] X.env))) := by rfl) :
    PE X (.Call (.Attribute o m apos) [] [] pos) (tMeth C m sp [] E0 ta tNil) := by
  obtain ⟨f, fd, g, F, b⟩ := D
  exact pe_meth0 he c g F (hr.mono hk) b .nil passL ht
/-- o.m(e, ..) that may raise -/
def tMethE (C : Addr) (m : Str) (sp : Sp) (E : L2.St → XK) (ta : TE) (t : TA) : TE := fun σ H Q =>
  ta σ H fun x H1 => ∃ a dx fs, x = .ref a ∧ H1 a = some (.ins C dx fs) ∧ fs.lookup m = none ∧ t σ H1 fun vs H2 => sp (x :: vs) H2 Q (E σ)
theorem pe_mfS {W : WX} {pl : Sem Bool} (D : Mf X.prog X.w X.K X.mg X.base k C m ps sp) (c : Cls X.K C) (hr : Room j X.A) (hk : k ≤ j) (tk : Takes X W) (he : PE X o ta) (ha : PA X (e :: es) t)
    (hst : starEach (e :: es) X.env = (false, eval e X.env) :: starEach es X.env := by rfl) (hpl : (backTo pos (starEach es X.env)).any (·.1) = false := by rfl)
    (ht : eval (.Call (.Attribute o m apos) (e :: es) [] pos) X.env = (do let ov ← eval o X.env; standAt apos.atName; let (f, first) ← holding [ov] (getMethod ov m pl); callWith pos f first (backTo pos (starEach (e :: es) X.env)) (backToKw pos (keywordEach [] X.env))) := by rfl) :
    PE X (.Call (.Attribute o m apos) (e :: es) [] pos) (tMethE C m sp (WE W) ta t) := by
  obtain ⟨f, fd, g, F, b⟩ := D
  constructor
  intro pins s σ H Q I h
  refine PySem.W.methodCall_KW (pl := pl) (thn (he.run pins s σ H _ I h) ?_) ht
  rintro u s1 ⟨x, H1, I1, rx, a, dx, fs, ex, ea, l, q⟩
  subst ex
  obtain rfl : u = Value.ref a := rx
  apply getmeth_ok I1 ea c g l
  refine PySem.W.callWith_K (first := [.ref a]) (h₀ := X.base) I.ok.mod.kin g.kp ?_ hst hpl
  refine thn (ha.run pos pins s1 σ H1 _ I1 q) ?_
  rintro us s2 ⟨vs, H2, I2, r, q2⟩
  refine ⟨I2.kIn, ?_⟩
  exact run_fnS (us := .ref a :: us) (vs := .ref a :: vs) F (hr.mono hk) b (fun pins H s e s' I c => tk e s' (XE.of_call I (fun _ _ _ h => h) c)) I2 (.cons rfl r) q2
theorem pe_mfS0 {W : WX} {pl : Sem Bool} (D : Mf X.prog X.w X.K X.mg X.base k C m ps sp) (c : Cls X.K C) (hr : Room j X.A) (hk : k ≤ j) (tk : Takes X W) (he : PE X o ta)
    (ht : eval (.Call (.Attribute o m apos) [] [] pos) X.env = (do let ov ← eval o X.env; standAt apos.atName; let (f, first) ← holding [ov] (getMethod ov m pl); callWith pos f first (backTo pos (starEach [] X.env)) (backToKw pos (keywordEach [] X.env))) := by rfl) :
    PE X (.Call (.Attribute o m apos) [] [] pos) (tMethE C m sp (WE W) ta tNil) := by
  obtain ⟨f, fd, g, F, b⟩ := D
  constructor
  intro pins s σ H Q I h
  refine PySem.W.methodCall_KW (pl := pl) (thn (he.run pins s σ H _ I h) ?_) ht
  rintro u s1 ⟨x, H1, I1, rx, a, dx, fs, ex, ea, l, q⟩
  subst ex
  obtain rfl : u = Value.ref a := rx
  apply getmeth_ok I1 ea c g l
  exact PySem.W.callWith_K0 (first := [.ref a]) I1.kIn g.kp (run_fnS (us := [.ref a]) (vs := [.ref a]) F (hr.mono hk) b (fun pins H s e s' I c => tk e s' (XE.of_call I (fun _ _ _ h => h) c)) I1 (.cons rfl .nil) q)
/-- C(e, ..), nothing let out -/
theorem pe_if (D : If_ X.prog X.w X.K X.mg X.base k C ps sp) (hm : X.mg x = some (.ref C)) (hr : Room j X.A) (hk : k + 1 ≤ j) (hg : Gl X x) (ha : PA X (e :: es) t) (hdb : (x == ("__debug__" : Str)) = false := by decide)
    (he : starEach (e :: es) X.env = (false, eval e X.env) :: starEach es X.env := by rfl) (hpl : (backTo pos (starEach es X.env)).any (·.1) = false := by rfl) : PE X (.Call (.Name x p) (e :: es) [] pos) (tMake C sp [] E0 t) := by
  obtain ⟨f, fd, g, F, b⟩ := D
  exact pe_make g F (hr.mono hk) hg hm b .nil passL ha hdb he hpl
end

/-! ### own errors -/
structure Ec (K : PySem.W.Frag) (mg : Str → Option Value) (x : Str) (C : Addr) : Prop where
  g : mg x = some (.ref C)
  x : PySem.W.excIn K C He.veBase "ValueError.__new__" = true
  k : PySem.W.keepIn K (.ref C) = true
  b : PySem.W.subIn K (.ref C) (.type "BaseException") = some true
  t : PySem.W.typeIn K (.ref C) = some (.type "type")
/-- raise X('m') -/
theorem ps_err {X : Cx} {x m : Str} {C : Addr} {j : Nat} {p p2 pos pos' : Pos} {W : WX} (hc : X.calm = true) (T : Ec X.K X.mg x C) (hg : Gl X x) (tk : Takes X W) (hdb : (x == ("__debug__" : Str)) = false := by decide) :
    PS X (.Raise (some (.Call (.Name x p) [.Constant (.str m) j p2] [] pos)) none pos') (fun _ σ H => W (.ref C) none σ H) :=
  ps_raise hc tk (pmk_own PySem.F.excBase_ValueError T.x T.g T.k (raises_own T.b T.t) hg hdb)

/-! ### small words of tests -/
theorem iteD {c : Prop} [Decidable c] {A B : Prop} (h1 : c → A) (h2 : ¬ c → B) : if decide c = true then A else B := by
  by_cases h : c
  · rw [decide_eq_true h]; exact iteT (h1 h)
  · rw [decide_eq_false h]; exact iteF (h2 h)
theorem iteND {c : Prop} [Decidable c] {A B : Prop} (h1 : ¬ c → A) (h2 : c → B) : if (!decide c) = true then A else B := by
  by_cases h : c
  · rw [decide_eq_true h]; exact iteF (h2 h)
  · rw [decide_eq_false h]; exact iteT (h1 h)
theorem iteB {b : Bool} {A B : Prop} (h1 : b = true → A) (h2 : b = false → B) : if b = true then A else B := by
  cases b
  · exact iteF (h2 rfl)
  · exact iteT (h1 rfl)
theorem iteNB {b : Bool} {A B : Prop} (h1 : b = false → A) (h2 : b = true → B) : if (!b) = true then A else B := by
  cases b
  · exact iteT (h1 rfl)
  · exact iteF (h2 rfl)
theorem ixN_at {n j : Nat} (h : j < n) : ixN n (j : Int) = some j := by
  unfold ixN
  rw [if_pos (Int.natCast_nonneg j), if_pos (Int.ofNat_lt.mpr h), Int.toNat_natCast]
/-! ### data -/
structure Shp (d : PyData) (n : Nat) : Prop where
  lay : d.canLay0 = true
  dep : d.depth ≤ n
theorem Shp.int (i : Int) : Shp (.int i) 0 := ⟨rfl, by simp [PyData.depth]⟩
theorem Shp.bool (b : Bool) : Shp (.bool b) 0 := ⟨rfl, by simp [PyData.depth]⟩
theorem canAll : ∀ {ds : List PyData} {n : Nat}, (∀ d ∈ ds, Shp d n) → PyData.canLayAll0 ds = true ∧ PyData.depthAll ds ≤ n
  | [], _, _ => ⟨rfl, by simp [PyData.depthAll]⟩
  | d :: ds, n, h => by
    have h1 := h d List.mem_cons_self
    have h2 := canAll (ds := ds) (n := n) fun x hx => h x (List.mem_cons_of_mem _ hx)
    refine ⟨?_, ?_⟩
    · show (d.canLay0 && PyData.canLayAll0 ds) = true
      rw [h1.lay, h2.1]; rfl
    · simp only [PyData.depthAll]
      have := h1.dep
      have := h2.2
      omega
theorem Shp.list {ds : List PyData} {n : Nat} (h : ∀ d ∈ ds, Shp d n) : Shp (.list ds) (n + 1) := ⟨(canAll h).1, by simp only [PyData.depth]; have := (canAll h).2; omega⟩
theorem Shp.tuple {ds : List PyData} {n : Nat} (h : ∀ d ∈ ds, Shp d n) : Shp (.tuple ds) (n + 1) := ⟨(canAll h).1, by simp only [PyData.depth]; have := (canAll h).2; omega⟩
theorem Shp.shaped {d : PyData} {n : Nat} (h : Shp d n) (hn : n ≤ 64) : SeqAt.shaped d = true := by
  unfold SeqAt.shaped
  rw [h.lay, decide_eq_true (Nat.le_trans h.dep hn)]; rfl
theorem Shp.refl {d : PyData} {n : Nat} (h : Shp d n) : PyData.eqv d d = true := SeqAt.eqv_refl d h.lay
theorem dpAll_map {K : PySem.W.Frag} {H : Hp} {α : Type} (f : α → V) (g : α → PyData) : ∀ {l : List α}, (∀ x ∈ l, Dp K H (f x) (g x)) → DpAll K H (l.map f) (l.map g)
  | [], _ => .nil
  | x :: l, h => .cons (h x List.mem_cons_self) (dpAll_map f g fun y hy => h y (List.mem_cons_of_mem _ hy))
/-- a list of whole numbers as data -/
abbrev dInts (l : List Int) : PyData := .list (l.map .int)
theorem dp_ints {K : PySem.W.Frag} {H : Hp} {a : Addr} {l : List Int} (h : SqL K H a (l.map V.int)) : Dp K H (.ref a) (dInts l) := .lst h (dpAll_map V.int .int fun x _ => .int x)
theorem sh_ints (l : List Int) : Shp (dInts l) 1 := .list fun d hd => by
  obtain ⟨i, _, rfl⟩ := List.mem_map.mp hd
  exact .int i
/-- what is free behind the making of an instance was free ahead of it -/
theorem made_free {H : Hp} {x dx C t : Addr} (nx : H x = none) (nd : H dx = none) (ht : (upd (upd H dx (.own x)) x (.ins C dx [])) t = none) : H t = none := by
  cases q : H t with
  | none => rfl
  | some o =>
    rw [upd_ne (ne_of_none q nx), upd_ne (ne_of_none q nd), q] at ht
    cases ht
/-- a module's whole number -/
theorem pe_kint {X : Cx} {x : Str} {p : Pos} {i : Int} (hg : Gl X x) (hm : ∃ t, X.mg x = some (.int i t)) (hdb : (x == ("__debug__" : Str)) = false := by decide) : PE X (.Name x p) (tC (.int i)) := by
  obtain ⟨t, h⟩ := hm
  exact pe_glob hg h ⟨_, rfl⟩ hdb
/-- C(e, ..) that may raise -/
def tMakeE (C : Addr) (sp : Sp) (E : L2.St → XK) (t : TA) : TE := fun σ H Q => t σ H fun vs H1 =>
  ∀ x dx, H1 x = none → H1 dx = none → dx ≠ x → sp (.ref x :: vs) (upd (upd H1 dx (.own x)) x (.ins C dx [])) (fun v H2 => v = .non ∧ Q (.ref x) H2) (E σ)
theorem pe_ifS {X : Cx} {k j : Nat} {x : Str} {ps : List Str} {sp : Sp} {C : Addr} {e : Expr} {es : List Expr} {t : TA} {p pos : Pos} {W : WX} (D : If_ X.prog X.w X.K X.mg X.base k C ps sp) (hm : X.mg x = some (.ref C)) (hr : Room j X.A) (hk : k + 1 ≤ j) (hg : Gl X x) (tk : Takes X W) (ha : PA X (e :: es) t)
    (hdb : (x == ("__debug__" : Str)) = false := by decide)
    (he : starEach (e :: es) X.env = (false, eval e X.env) :: starEach es X.env := by rfl) (hpl : (backTo pos (starEach es X.env)).any (·.1) = false := by rfl) : PE X (.Call (.Name x p) (e :: es) [] pos) (tMakeE C sp (WE W) t) := by
  obtain ⟨f, fd, M, F, hb⟩ := D
  constructor
  intro pins s σ H Q I h
  refine wpAny_Call_Name_kw (ld_glob I hg hm ?_ hdb)
  refine PySem.W.callWith_K (h₀ := X.base) I.ok.mod.kin M.kp ?_ he hpl
  refine thn (ha.run pos pins s σ H _ I h) ?_
  rintro us s1 ⟨vs, H1, I1, r, q⟩
  refine ⟨I1.kIn, ?_⟩
  let a := s1.heap.objs.size
  have hq := q (a + 1) a (I1.hok.fresh (Nat.le_succ _)) (I1.hok.fresh (Nat.le_refl _)) (Nat.ne_of_lt (Nat.lt_succ_self _))
  have I2 := Inv.made (C := C) I1
  have r2 : Vals (V.ref (a + 1) :: vs) (Value.ref (a + 1) :: us) := .cons rfl r
  have hl : (Value.ref (a + 1) :: us ++ []).length = ps.length := by
    rw [List.append_nil, ← r2.length]
    exact F.len _ _ _ _ hq
  have bd := hb _ (Value.ref (a + 1) :: us) I2.kIn hl
  rw [List.append_nil] at bd
  have run := F.run _ X.stack _ _ ⟨Value.ref (a + 1) :: us, []⟩ _ _ _ (WE W σ) ((hr.mono hk).make C us []) (I2.env0.make C us []) bd r2 hq
  refine wpAny_call (make_map (f := f) I1.kIn M.makes M.init (beq_iff_eq.mp M.fn) (codeAny_mono run ?_))
  rintro (e | fl) s' hq'
  · exact tk e s' (XE.of_call I2 (fun _ _ _ h => h) hq')
  · cases fl with
    | ret u =>
      obtain ⟨v, H', I3, rv, ev, q3⟩ := I2.after hq'
      subst ev
      exact ⟨rv, V.ref (a + 1), H', I3, rfl, q3⟩
    | _ => exact hq'.elim
/-- a field's reading -/
abbrev RFld (K : PySem.W.Frag) (p : Addr) (f : Str) (H : Hp) (Q : V → Prop) : Prop :=
  ∃ a C dx fs v, V.ref p = .ref a ∧ H a = some (.ins C dx fs) ∧ Cls K C ∧ NoAttr K C f ∧ fs.lookup f = some v ∧ Q v
end Sb
namespace Sb
open PySem PySem.Spec PyProof.Rows L2
def top (i : Nat) : Stmt := PySem.Challenge.pw_slabroom_k01_size_for.main.body.getD i (.Pass ⟨0, 0, 0, 0⟩)
abbrev s_is_whole : Stmt := top 10
theorem sc_is_whole : FnScope ["thing", "least", "most"] ["thing", "least", "most"] (defScope s_is_whole) := ⟨rfl, rfl, rfl, by decide +kernel, rfl, by decide +kernel, by decide +kernel⟩
theorem bi_is_whole : BindOk ["thing", "least", "most"] "is_whole" "is_whole" s_is_whole := fun _ _ _ _ _ _ us hl => match us, hl with | [_, _, _], _ => rfl
abbrev s_Plan_init : Stmt := inClass (top 11) 0
theorem sc_Plan_init : FnScope ["self", "pages", "length", "sizes", "before", "size"] ["self", "pages", "length", "sizes"] (defScope s_Plan_init) := ⟨rfl, rfl, rfl, by decide +kernel, rfl, by decide +kernel, by decide +kernel⟩
theorem bi_Plan_init : BindOk ["self", "pages", "length", "sizes"] "__init__" "Plan.__init__" s_Plan_init := fun _ _ _ _ _ _ us hl => match us, hl with | [_, _, _, _], _ => rfl
abbrev s_Plan_size_for : Stmt := inClass (top 11) 1
theorem sc_Plan_size_for : FnScope ["self", "wish", "size"] ["self", "wish"] (defScope s_Plan_size_for) := ⟨rfl, rfl, rfl, by decide +kernel, rfl, by decide +kernel, by decide +kernel⟩
theorem bi_Plan_size_for : BindOk ["self", "wish"] "size_for" "Plan.size_for" s_Plan_size_for := fun _ _ _ _ _ _ us hl => match us, hl with | [_, _], _ => rfl
abbrev s_Plan_per : Stmt := inClass (top 11) 2
theorem sc_Plan_per : FnScope ["self", "size"] ["self", "size"] (defScope s_Plan_per) := ⟨rfl, rfl, rfl, by decide +kernel, rfl, by decide +kernel, by decide +kernel⟩
theorem bi_Plan_per : BindOk ["self", "size"] "per" "Plan.per" s_Plan_per := fun _ _ _ _ _ _ us hl => match us, hl with | [_, _], _ => rfl
abbrev s_law_cell_at : Stmt := top 13
theorem sc_law_cell_at : FnScope ["_law_script", "_law_k"] ["_law_script", "_law_k"] (defScope s_law_cell_at) := ⟨rfl, rfl, rfl, by decide +kernel, rfl, by decide +kernel, by decide +kernel⟩
theorem bi_law_cell_at : BindOk ["_law_script", "_law_k"] "_law_cell_at" "_law_cell_at" s_law_cell_at := fun _ _ _ _ _ _ us hl => match us, hl with | [_, _], _ => rfl
abbrev s_law_whole : Stmt := top 14
theorem sc_law_whole : FnScope ["_law_found_here"] ["_law_found_here"] (defScope s_law_whole) := ⟨rfl, rfl, rfl, by decide +kernel, rfl, by decide +kernel, by decide +kernel⟩
theorem bi_law_whole : BindOk ["_law_found_here"] "_law_whole" "_law_whole" s_law_whole := fun _ _ _ _ _ _ us hl => match us, hl with | [_], _ => rfl
abbrev s_law_sizes_by : Stmt := top 15
theorem sc_law_sizes_by : FnScope ["_law_cell", "_law_length", "_law_many", "_law_found_here", "_law_before", "_law_rest", "_law_span", "_law_turn"] ["_law_cell", "_law_length", "_law_many"] (defScope s_law_sizes_by) := ⟨rfl, rfl, rfl, by decide +kernel, rfl, by decide +kernel, by decide +kernel⟩
theorem bi_law_sizes_by : BindOk ["_law_cell", "_law_length", "_law_many"] "_law_sizes_by" "_law_sizes_by" s_law_sizes_by := fun _ _ _ _ _ _ us hl => match us, hl with | [_, _, _], _ => rfl
abbrev s_law_due : Stmt := top 16
theorem sc_law_due : FnScope ["_law_sizes", "_law_wish", "_law_size"] ["_law_sizes", "_law_wish"] (defScope s_law_due) := ⟨rfl, rfl, rfl, by decide +kernel, rfl, by decide +kernel, by decide +kernel⟩
theorem bi_law_due : BindOk ["_law_sizes", "_law_wish"] "_law_due" "_law_due" s_law_due := fun _ _ _ _ _ _ us hl => match us, hl with | [_, _], _ => rfl
abbrev s_law_found : Stmt := top 17
theorem sc_law_found : FnScope ["_law_plan", "_law_wish"] ["_law_plan", "_law_wish"] (defScope s_law_found) := ⟨rfl, rfl, rfl, by decide +kernel, rfl, by decide +kernel, by decide +kernel⟩
theorem bi_law_found : BindOk ["_law_plan", "_law_wish"] "_law_found" "_law_found" s_law_found := fun _ _ _ _ _ _ us hl => match us, hl with | [_, _], _ => rfl
abbrev s_law_slots : Stmt := top 18
theorem sc_law_slots : FnScope ["_law_plan", "_law_size"] ["_law_plan", "_law_size"] (defScope s_law_slots) := ⟨rfl, rfl, rfl, by decide +kernel, rfl, by decide +kernel, by decide +kernel⟩
theorem bi_law_slots : BindOk ["_law_plan", "_law_size"] "_law_slots" "_law_slots" s_law_slots := fun _ _ _ _ _ _ us hl => match us, hl with | [_, _], _ => rfl
abbrev s_law : Stmt := top 19
theorem sc_law : FnScope ["_law_script", "_law_length", "_law_sizes", "_law_plan", "_law_wish", "_law_found_here", "_law_strange", "_law_size", "_law_slots_here", "_law_due_here"] ["_law_script"] (defScope s_law) := ⟨rfl, rfl, rfl, by decide +kernel, rfl, by decide +kernel, by decide +kernel⟩
theorem bi_law : BindOk ["_law_script"] "law" "law" s_law := fun _ _ _ _ _ _ us hl => match us, hl with | [_], _ => rfl
structure Ad where
  Plan : Addr
  RoomError : Addr
  BadPlan : Addr
  BadWish : Addr
  TooLarge : Addr
  NoSize : Addr
structure Tx (K : PySem.W.Frag) (mg : Str → Option Value) (A : Ad) : Prop where
  z_ValueError : mg "ValueError" = none
  z_abs : mg "abs" = none
  z_bool : mg "bool" = none
  z_int : mg "int" = none
  z_isinstance : mg "isinstance" = none
  z_len : mg "len" = none
  z_list : mg "list" = none
  z_range : mg "range" = none
  k_MOST_PAGES : ∃ t, mg "MOST_PAGES" = some (.int 40 t)
  k_MOST_LENGTH : ∃ t, mg "MOST_LENGTH" = some (.int 60 t)
  k_MOST_SIZES : ∃ t, mg "MOST_SIZES" = some (.int 8 t)
  e_RoomError : Ec K mg "RoomError" A.RoomError
  e_BadPlan : Ec K mg "BadPlan" A.BadPlan
  e_BadWish : Ec K mg "BadWish" A.BadWish
  e_TooLarge : Ec K mg "TooLarge" A.TooLarge
  e_NoSize : Ec K mg "NoSize" A.NoSize
  x_BadPlan_BadWish : PySem.W.exmOne K (.ref A.BadPlan) (.ref A.BadWish) = some false
  x_BadPlan_TooLarge : PySem.W.exmOne K (.ref A.BadPlan) (.ref A.TooLarge) = some false
  x_BadPlan_NoSize : PySem.W.exmOne K (.ref A.BadPlan) (.ref A.NoSize) = some false
  x_BadWish_BadWish : PySem.W.exmOne K (.ref A.BadWish) (.ref A.BadWish) = some true
  x_BadWish_TooLarge : PySem.W.exmOne K (.ref A.BadWish) (.ref A.TooLarge) = some false
  x_BadWish_NoSize : PySem.W.exmOne K (.ref A.BadWish) (.ref A.NoSize) = some false
  x_TooLarge_BadWish : PySem.W.exmOne K (.ref A.TooLarge) (.ref A.BadWish) = some false
  x_TooLarge_TooLarge : PySem.W.exmOne K (.ref A.TooLarge) (.ref A.TooLarge) = some true
  x_TooLarge_NoSize : PySem.W.exmOne K (.ref A.TooLarge) (.ref A.NoSize) = some false
  x_NoSize_BadWish : PySem.W.exmOne K (.ref A.NoSize) (.ref A.BadWish) = some false
  x_NoSize_TooLarge : PySem.W.exmOne K (.ref A.NoSize) (.ref A.TooLarge) = some false
  x_NoSize_NoSize : PySem.W.exmOne K (.ref A.NoSize) (.ref A.NoSize) = some true
  c_Plan : Cls K A.Plan
  g_Plan : mg "Plan" = some (.ref A.Plan)
  n_Plan_pages : NoAttr K A.Plan "pages"
  n_Plan_length : NoAttr K A.Plan "length"
  n_Plan_sizes : NoAttr K A.Plan "sizes"
  d_is_whole : Dd K mg "is_whole" s_is_whole
  d_Plan_init : Di K A.Plan "Plan.__init__" s_Plan_init
  d_Plan_size_for : Dm K A.Plan "size_for" "Plan.size_for" s_Plan_size_for
  d_Plan_per : Dm K A.Plan "per" "Plan.per" s_Plan_per
  d_law_cell_at : Dd K mg "_law_cell_at" s_law_cell_at
  d_law_whole : Dd K mg "_law_whole" s_law_whole
  d_law_sizes_by : Dd K mg "_law_sizes_by" s_law_sizes_by
  d_law_due : Dd K mg "_law_due" s_law_due
  d_law_found : Dd K mg "_law_found" s_law_found
  d_law_slots : Dd K mg "_law_slots" s_law_slots
  d_law : Dd K mg "law" s_law
end Sb
namespace Sb
open PySem PySem.Spec PyProof.Rows L2
def big : Int := 10 ^ 60
def cellAt (ns : List Int) (k : Nat) : Int := if big ≤ (if ns.getD k 0 < 0 then -(ns.getD k 0) else ns.getD k 0) then ns.getD k 0 % big else ns.getD k 0
theorem cell_big (ns : List Int) (k : Nat) : -big < cellAt ns k ∧ cellAt ns k < big := by
  have hb : (0 : Int) < big := by decide +kernel
  unfold cellAt
  generalize ns.getD k 0 = x
  by_cases h : big ≤ (if x < 0 then -x else x)
  · rw [if_pos h]
    have h1 := Int.emod_nonneg x (show big ≠ 0 by omega)
    have h2 := Int.emod_lt_of_pos x hb
    omega
  · rw [if_neg h]
    by_cases h0 : x < 0
    · rw [if_pos h0] at h; omega
    · rw [if_neg h0] at h; omega
def sp_law_cell_at (K : PySem.W.Frag) (A : Ad) : Sp := fun vs H Q _ => ∃ (a : Addr) (ns : List Int) (k : Nat), vs = [.ref a, .int k] ∧ SqL K H a (ns.map V.int) ∧ Q (.int (cellAt ns k)) H
section
variable {P : Program} {w : World} {K : PySem.W.Frag} {mg : Str → Option Value} {base : Heap} {A : Ad}
theorem ok_law_cell_at (T : Tx K mg A) : Df P w K mg base 1 "_law_cell_at" ["_law_script", "_law_k"] (sp_law_cell_at K A) := by
  refine Dd.ok T.d_law_cell_at sc_law_cell_at bi_law_cell_at (fun vs H Q E h => ?_) (fun f cdv Ar outer s H vs Q E hr h => ?_)
  · obtain ⟨a, ns, k, rfl, _⟩ := h; rfl
  · obtain ⟨a, ns, n, rfl, S, k⟩ := h
    refine ⟨_, (pss_cons (ps_if (pt_cmpR op_ge (pv 1) (pe_callB call_len_seq (by rfl) T.z_len (by decide +kernel) (pa_cons (pv 0) pa_nil)) (nomark _)) (pss_one (ps_ret pe_int))
    pss_nil)
    (pss_cons (ps_if (pt_cmpR op_ge (pe_callB call_abs (by rfl) T.z_abs (by decide +kernel) (pa_cons (pe_ix ix_list (pv 0) (pv 1) (fun _ _ => rfl)) pa_nil)) (pe_op op_pow pe_int pe_int) (nomark _)) (pss_one (ps_ret (pe_op op_mod (pe_ix ix_list (pv 0) (pv 1) (fun _ _ => rfl)) (pe_op op_pow pe_int pe_int))))
    pss_nil)
    (pss_one (ps_ret (pe_ix ix_list (pv 0) (pv 1) (fun _ _ => rfl)))))), ?_⟩
    refine ⟨_, rfl, _, rfl, a, _, rfl, .inl S, _, _, rfl, rfl, _, rfl, ?_⟩
    refine iteD (fun h => ?_) (fun h => ?_)
    · rw [List.length_map] at h
      have e : cellAt ns n = 0 := by
        unfold cellAt
        rw [List.getD_eq_getElem?_getD, List.getElem?_eq_none (by omega)]
        decide +kernel
      rw [e] at k
      exact k
    · rw [List.length_map] at h
      have hn : n < ns.length := by omega
      have ha : (ns.map V.int)[n]? = some (.int (ns.getD n 0)) := by
        rw [List.getElem?_map, List.getElem?_eq_getElem hn]
        simp [List.getD_eq_getElem?_getD, hn]
      refine ⟨_, rfl, _, rfl, a, _, _, _, rfl, rfl, S, at_of rfl ha, _, rfl, _, _, rfl, rfl, ⟨by decide, by decide, by decide⟩, _, _, rfl, rfl, _, rfl, ?_⟩
      refine iteD (fun h => ?_) (fun h => ?_)
      · refine ⟨_, rfl, _, rfl, a, _, _, _, rfl, rfl, S, at_of rfl ha, _, _, rfl, rfl, ⟨by decide, by decide, by decide⟩, _, _, rfl, rfl, (by show (0 : Int) < 10 ^ (60 : Int).toNat; decide +kernel), ?_⟩
        have e : cellAt ns n = ns.getD n 0 % big := if_pos h
        rw [e] at k
        exact k
      · refine ⟨_, rfl, _, rfl, a, _, _, _, rfl, rfl, S, at_of rfl ha, ?_⟩
        have e : cellAt ns n = ns.getD n 0 := if_neg h
        rw [e] at k
        exact k
end
end Sb
namespace Sb
open PySem PySem.Spec PyProof.Rows L2
/-! ### what the laws share: a cell of the script, whole numbers -/
/-- the kinds that are asked -/
def kinds : List String := ["int", "bool", "NoneType", "str", "list", "tuple"]
def sp_law_whole (K : PySem.W.Frag) (A : Ad) : Sp := fun vs H Q _ => ∃ (v : V) (T : String), vs = [v] ∧ TyX K H v (.type T) ∧ T ∈ kinds ∧ Q (.bl (decide (T = "int"))) H
theorem tInt {K : PySem.W.Frag} {H : Hp} {i : Int} : TyX K H (.int i) (.type "int") := .base (.int i)
theorem tBl {K : PySem.W.Frag} {H : Hp} {b : Bool} : TyX K H (.bl b) (.type "bool") := .base (.bl b)
theorem tStr {K : PySem.W.Frag} {H : Hp} {x : Str} : TyX K H (.str x) (.type "str") := .base (.str x)
theorem tNon {K : PySem.W.Frag} {H : Hp} : TyX K H .non (.type "NoneType") := .base .non
theorem tLst {K : PySem.W.Frag} {H : Hp} {a : Addr} {xs : List V} (e : H a = some (.lst xs)) : TyX K H (.ref a) (.type "list") := .base (.lst e)
theorem tTup {K : PySem.W.Frag} {H : Hp} {a : Addr} {xs : List V} (e : H a = some (.tup xs)) : TyX K H (.ref a) (.type "tuple") := .base (.tup e)
section
variable {P : Program} {w : World} {K : PySem.W.Frag} {mg : Str → Option Value} {base : Heap} {A : Ad}
theorem ok_law_whole (T : Tx K mg A) : Df P w K mg base 1 "_law_whole" ["_law_found_here"] (sp_law_whole K A) := by
  refine Dd.ok T.d_law_whole sc_law_whole bi_law_whole (fun vs H Q E h => ?_) (fun f cdv Ar outer s H vs Q E hr h => ?_)
  · obtain ⟨v, Ty, rfl, _⟩ := h; rfl
  · obtain ⟨v, Ty, rfl, ty, hm, k⟩ := h
    refine ⟨_, (pss_one (ps_ret (pe_and (pe_callB call_isi (by rfl) T.z_isinstance (by decide +kernel) (pa_cons (pv 0) (pa_cons (pe_bltn (v := .ty "int") (by rfl) T.z_int (by decide +kernel) rfl) pa_nil))) (pe_one (pe_not (pe_callB call_isi (by rfl) T.z_isinstance (by decide +kernel) (pa_cons (pv 0) (pa_cons (pe_bltn (v := .ty "bool") (by rfl) T.z_bool (by decide +kernel) rfl) pa_nil)))))))), ?_⟩
    refine ⟨_, rfl, ?_⟩
    simp only [kinds, List.mem_cons, List.mem_nil_iff, or_false] at hm
    rcases hm with rfl | rfl | rfl | rfl | rfl | rfl
    · refine ⟨_, _, _, _, true, rfl, .ty _, ty, kit_ty (by decide +kernel), ?_⟩
      refine ⟨_, rfl, iteT ⟨_, rfl, ?_⟩⟩
      refine ⟨_, _, _, _, false, rfl, .ty _, ty, kit_ty (by decide +kernel), ?_⟩
      exact ⟨_, rfl, k⟩
    · refine ⟨_, _, _, _, true, rfl, .ty _, ty, kit_ty (by decide +kernel), ?_⟩
      refine ⟨_, rfl, iteT ⟨_, rfl, ?_⟩⟩
      refine ⟨_, _, _, _, true, rfl, .ty _, ty, kit_ty (by decide +kernel), ?_⟩
      exact ⟨_, rfl, k⟩
    all_goals
      refine ⟨_, _, _, _, false, rfl, .ty _, ty, kit_ty (by decide +kernel), ?_⟩
      exact ⟨_, rfl, iteF k⟩
end
end Sb
namespace Sb
open PySem PySem.Spec PyProof.Rows L2
/-- a value of a kind that is asked for -/
def Kind (K : PySem.W.Frag) (H : Hp) (v : V) : Prop := ∃ T, TyX K H v (.type T) ∧ T ∈ kinds ∧ ((∃ i, v = .int i) ↔ T = "int")
def isWh : V → Int → Int → Bool
  | .int i, l, m => decide (l ≤ i) && decide (i ≤ m)
  | _, _, _ => false
theorem Kind.int {K : PySem.W.Frag} {H : Hp} (i : Int) : Kind K H (.int i) := ⟨_, tInt, by decide, fun _ => rfl, fun _ => ⟨i, rfl⟩⟩
theorem Kind.bl {K : PySem.W.Frag} {H : Hp} (b : Bool) : Kind K H (.bl b) := ⟨_, tBl, by decide, (fun ⟨_, h⟩ => nomatch h), fun h => absurd h (by decide)⟩
theorem Kind.str {K : PySem.W.Frag} {H : Hp} (x : Str) : Kind K H (.str x) := ⟨_, tStr, by decide, (fun ⟨_, h⟩ => nomatch h), fun h => absurd h (by decide)⟩
theorem Kind.non {K : PySem.W.Frag} {H : Hp} : Kind K H .non := ⟨_, tNon, by decide, (fun ⟨_, h⟩ => nomatch h), fun h => absurd h (by decide)⟩
theorem isWh_not {v : V} {l m : Int} (h : ¬ ∃ i, v = .int i) : isWh v l m = false := by
  cases v with
  | int i => exact absurd ⟨i, rfl⟩ h
  | _ => rfl
def sp_is_whole (K : PySem.W.Frag) (A : Ad) : Sp := fun vs H Q _ => ∃ (v : V) (l m : Int), vs = [v, .int l, .int m] ∧ Kind K H v ∧ Q (.bl (isWh v l m)) H
section
variable {P : Program} {w : World} {K : PySem.W.Frag} {mg : Str → Option Value} {base : Heap} {A : Ad}
theorem ok_is_whole (T : Tx K mg A) : Df P w K mg base 1 "is_whole" ["thing", "least", "most"] (sp_is_whole K A) := by
  refine Dd.ok T.d_is_whole sc_is_whole bi_is_whole (fun vs H Q E h => ?_) (fun f cdv Ar outer s H vs Q E hr h => ?_)
  · obtain ⟨v, l, m, rfl, _⟩ := h; rfl
  · obtain ⟨v, l, m, rfl, ⟨Ty, ty, hm, hi⟩, k⟩ := h
    refine ⟨_, (pss_one (ps_ret (pe_and (pe_callB call_isi (by rfl) T.z_isinstance (by decide +kernel) (pa_cons (pv 0) (pa_cons (pe_bltn (v := .ty "int") (by rfl) T.z_int (by decide +kernel) rfl) pa_nil))) (pe_and (pe_not (pe_callB call_isi (by rfl) T.z_isinstance (by decide +kernel) (pa_cons (pv 0) (pa_cons (pe_bltn (v := .ty "bool") (by rfl) T.z_bool (by decide +kernel) rfl) pa_nil)))) (pe_one (pe_chain op_le op_le (pv 1) (pv 0) (pv 2))))))), ?_⟩
    refine ⟨_, rfl, ?_⟩
    simp only [kinds, List.mem_cons, List.mem_nil_iff, or_false] at hm
    rcases hm with rfl | rfl | rfl | rfl | rfl | rfl
    · obtain ⟨i, rfl⟩ := hi.mpr rfl
      refine ⟨_, _, _, _, true, rfl, .ty _, ty, kit_ty (by decide +kernel), ?_⟩
      refine ⟨_, rfl, iteT ⟨_, rfl, ?_⟩⟩
      refine ⟨_, _, _, _, false, rfl, .ty _, ty, kit_ty (by decide +kernel), ?_⟩
      refine ⟨_, rfl, _, rfl, iteT ?_⟩
      refine ⟨_, rfl, _, rfl, _, _, rfl, rfl, _, rfl, ?_⟩
      refine iteD (fun h => ?_) (fun h => ?_)
      · refine ⟨_, rfl, _, _, rfl, rfl, ?_⟩
        have e : isWh (.int i) l m = decide (i ≤ m) := by show (decide (l ≤ i) && decide (i ≤ m)) = _; rw [decide_eq_true h]; rfl
        rw [e] at k
        exact k
      · have e : isWh (.int i) l m = false := by show (decide (l ≤ i) && decide (i ≤ m)) = _; rw [decide_eq_false h]; rfl
        rw [e] at k
        exact k
    · rw [isWh_not fun h => absurd (hi.mp h) (by decide)] at k
      refine ⟨_, _, _, _, true, rfl, .ty _, ty, kit_ty (by decide +kernel), ?_⟩
      refine ⟨_, rfl, iteT ⟨_, rfl, ?_⟩⟩
      refine ⟨_, _, _, _, true, rfl, .ty _, ty, kit_ty (by decide +kernel), ?_⟩
      exact ⟨_, rfl, _, rfl, iteF k⟩
    all_goals
      rw [isWh_not fun h => absurd (hi.mp h) (by decide)] at k
      refine ⟨_, _, _, _, false, rfl, .ty _, ty, kit_ty (by decide +kernel), ?_⟩
      exact ⟨_, rfl, iteF k⟩
end
end Sb
namespace Sb
open PySem PySem.Spec PyProof.Rows L2
/-! ### plans, in plain Lean -/
structure PlM where
  pages : Int
  length : Int
  sizes : List Int
structure PlM.Ok (m : PlM) : Prop where
  p1 : 1 ≤ m.pages
  p2 : m.pages ≤ 40
  l1 : 1 ≤ m.length
  l2 : m.length ≤ 60
  s1 : 1 ≤ m.sizes.length
  s2 : m.sizes.length ≤ 8
  rng : ∀ s ∈ m.sizes, 1 ≤ s ∧ s ≤ m.length
  ris : m.sizes.Pairwise (· < ·)
/-- the least size that does -/
def sizeFor (ss : List Int) (w : Int) : Option Int := ss.find? fun s => decide (w ≤ s)
/-- rising behind a number -/
def rises (l : Int) : Int → List V → Bool
  | _, [] => true
  | b, x :: r => isWh x (b + 1) l && match x with
    | .int i => rises l i r
    | _ => false
/-- what a plan is made of is good: xs none: the sizes are no list -/
def szOk : Option (List V) → V → Bool
  | some xs, .int l => decide (1 ≤ xs.length) && decide (xs.length ≤ 8) && rises l 0 xs
  | _, _ => false
def planOk (v1 v2 : V) (xs : Option (List V)) : Bool := isWh v1 1 40 && isWh v2 1 60 && szOk xs v2
theorem isWh_int {v : V} {l m : Int} (h : isWh v l m = true) : ∃ i, v = .int i ∧ l ≤ i ∧ i ≤ m := by
  cases v with
  | int i =>
    have h' : (decide (l ≤ i) && decide (i ≤ m)) = true := h
    rw [Bool.and_eq_true, decide_eq_true_eq, decide_eq_true_eq] at h'
    exact ⟨i, rfl, h'⟩
  | _ => exact absurd h (by simp [isWh])
theorem rises_ok {l : Int} : ∀ {b : Int} {xs : List V}, rises l b xs = true → ∃ ss : List Int, xs = ss.map V.int ∧ ss.Pairwise (· < ·) ∧ ∀ s ∈ ss, b + 1 ≤ s ∧ s ≤ l
  | _, [], _ => ⟨[], rfl, .nil, fun s hs => nomatch hs⟩
  | b, x :: r, h => by
    unfold rises at h
    rw [Bool.and_eq_true] at h
    obtain ⟨i, rfl, h1, h2⟩ := isWh_int h.1
    obtain ⟨ss, rfl, a1, a2⟩ := rises_ok (b := i) (xs := r) h.2
    refine ⟨i :: ss, rfl, .cons (fun s hs => by have := a2 s hs; omega) a1, fun s hs => ?_⟩
    rcases List.mem_cons.mp hs with rfl | hs
    · exact ⟨h1, h2⟩
    · have := a2 s hs; omega
theorem rises_of {l : Int} : ∀ {b : Int} {ss : List Int}, ss.Pairwise (· < ·) → (∀ s ∈ ss, b + 1 ≤ s ∧ s ≤ l) → rises l b (ss.map V.int) = true
  | _, [], _, _ => rfl
  | b, s :: ss, hp, h => by
    have h0 := h s List.mem_cons_self
    show (isWh (.int s) (b + 1) l && rises l s (ss.map V.int)) = true
    have e1 : isWh (.int s) (b + 1) l = true := by
      show (decide (b + 1 ≤ s) && decide (s ≤ l)) = true
      rw [decide_eq_true h0.1, decide_eq_true h0.2]; rfl
    rw [e1, rises_of (List.pairwise_cons.mp hp).2 fun t ht => ⟨by have := (List.pairwise_cons.mp hp).1 t ht; omega, (h t (List.mem_cons_of_mem _ ht)).2⟩]
    rfl
theorem PlM.Ok.good {m : PlM} (h : m.Ok) : planOk (.int m.pages) (.int m.length) (some (m.sizes.map V.int)) = true := by
  unfold planOk
  have e1 : isWh (.int m.pages) 1 40 = true := by
    show (decide (1 ≤ m.pages) && decide (m.pages ≤ 40)) = true
    rw [decide_eq_true h.p1, decide_eq_true h.p2]; rfl
  have e2 : isWh (.int m.length) 1 60 = true := by
    show (decide (1 ≤ m.length) && decide (m.length ≤ 60)) = true
    rw [decide_eq_true h.l1, decide_eq_true h.l2]; rfl
  rw [e1, e2]
  show (true && true && (decide (1 ≤ (m.sizes.map V.int).length) && decide ((m.sizes.map V.int).length ≤ 8) && rises m.length 0 (m.sizes.map V.int))) = true
  rw [List.length_map, decide_eq_true h.s1, decide_eq_true h.s2, rises_of h.ris fun s hs => by have := h.rng s hs; omega]
  rfl
theorem planOk_ok {v1 v2 : V} {xs : Option (List V)} (h : planOk v1 v2 xs = true) : ∃ m : PlM, m.Ok ∧ v1 = .int m.pages ∧ v2 = .int m.length ∧ xs = some (m.sizes.map V.int) := by
  unfold planOk at h
  rw [Bool.and_eq_true, Bool.and_eq_true] at h
  obtain ⟨⟨h1, h2⟩, h3⟩ := h
  obtain ⟨p, rfl, p1, p2⟩ := isWh_int h1
  obtain ⟨l, rfl, l1, l2⟩ := isWh_int h2
  cases xs with
  | none => cases h3
  | some xs =>
    have h4 : (decide (1 ≤ xs.length) && decide (xs.length ≤ 8) && rises l 0 xs) = true := h3
    rw [Bool.and_eq_true, Bool.and_eq_true, decide_eq_true_eq, decide_eq_true_eq] at h4
    obtain ⟨ss, rfl, a1, a2⟩ := rises_ok h4.2
    rw [List.length_map] at h4
    exact ⟨⟨p, l, ss⟩, ⟨p1, p2, l1, l2, h4.1.1, h4.1.2, fun s hs => by have := a2 s hs; exact ⟨by omega, this.2⟩, a1⟩, rfl, rfl, rfl⟩

/-! ### a plan in the heap -/
def plF (m : PlM) (z : Addr) : List (Str × V) := [("pages", .int m.pages), ("length", .int m.length), ("sizes", .ref z)]
structure PlAt (A : Ad) (H : Hp) (p z : Addr) (m : PlM) : Prop where
  ob : ∃ dx, H p = some (.ins A.Plan dx (plF m z))
  sz : H z = some (.lst (m.sizes.map V.int))
  ok : m.Ok
theorem plF_pages (m : PlM) (z : Addr) : (plF m z).lookup ("pages" : Str) = some (.int m.pages) := by kernel_rfl
theorem plF_length (m : PlM) (z : Addr) : (plF m z).lookup ("length" : Str) = some (.int m.length) := by kernel_rfl
theorem plF_sizes (m : PlM) (z : Addr) : (plF m z).lookup ("sizes" : Str) = some (.ref z) := by kernel_rfl
theorem plF_new (p l : Int) (z : Addr) (ss : List Int) : putF ("sizes" : Str) (.ref z) (putF ("length" : Str) (.int l) (putF ("pages" : Str) (.int p) [])) = plF ⟨p, l, ss⟩ z := by kernel_rfl
theorem plF_no_size_for (m : PlM) (z : Addr) : (plF m z).lookup ("size_for" : Str) = none := by kernel_rfl
theorem plF_no_per (m : PlM) (z : Addr) : (plF m z).lookup ("per" : Str) = none := by kernel_rfl
section
variable {K : PySem.W.Frag} {mg : Str → Option Value} {A : Ad} {H : Hp} {p z : Addr} {m : PlM} {Q : V → Prop}
theorem PlAt.fPages (S : PlAt A H p z m) (T : Tx K mg A) (q : Q (.int m.pages)) : RFld K p "pages" H Q := by
  obtain ⟨dx, h⟩ := S.ob
  exact ⟨p, _, dx, _, _, rfl, h, T.c_Plan, T.n_Plan_pages, plF_pages _ _, q⟩
theorem PlAt.fLength (S : PlAt A H p z m) (T : Tx K mg A) (q : Q (.int m.length)) : RFld K p "length" H Q := by
  obtain ⟨dx, h⟩ := S.ob
  exact ⟨p, _, dx, _, _, rfl, h, T.c_Plan, T.n_Plan_length, plF_length _ _, q⟩
theorem PlAt.fSizes (S : PlAt A H p z m) (T : Tx K mg A) (q : Q (.ref z)) : RFld K p "sizes" H Q := by
  obtain ⟨dx, h⟩ := S.ob
  exact ⟨p, _, dx, _, _, rfl, h, T.c_Plan, T.n_Plan_sizes, plF_sizes _ _, q⟩
theorem PlAt.keep {H' : Hp} (S : PlAt A H p z m) (k : ∀ b o, H b = some o → b = p ∨ b = z → H' b = some o) : PlAt A H' p z m := by
  obtain ⟨⟨dx, h⟩, h2, h3⟩ := S
  exact ⟨⟨dx, k _ _ h (.inl rfl)⟩, k _ _ h2 (.inr rfl), h3⟩
end
/-! ### the promises -/
/-- what is handed in as the sizes: a list of these, or none -/
def SzIs (K : PySem.W.Frag) (H : Hp) (v : V) : Option (List V) → Prop
  | some xs => ∃ z, v = .ref z ∧ H z = some (.lst xs) ∧ xs.length ≤ 100 ∧ ∀ x ∈ xs, Kind K H x
  | none => ∃ T, TyX K H v (.type T) ∧ T ∈ kinds ∧ T ≠ "list"
def sp_Plan_init (K : PySem.W.Frag) (A : Ad) : Sp := fun vs H Q E => ∃ (p dx : Addr) (v1 v2 v3 : V) (xs : Option (List V)), vs = [.ref p, v1, v2, v3] ∧ Kind K H v1 ∧ Kind K H v2 ∧ SzIs K H v3 xs ∧ H p = some (.ins A.Plan dx []) ∧
  (planOk v1 v2 xs = false → E (.ref A.BadPlan) none H) ∧
  ∀ (m : PlM) (z : Addr) (H' : Hp), m.Ok → v1 = .int m.pages → v2 = .int m.length → xs = some (m.sizes.map V.int) → H z = none → PlAt A H' p z m → (∀ b o, H b = some o → b ≠ p → H' b = some o) → Q .non H'
def isWish : V → Bool
  | .int i => decide (1 ≤ i)
  | _ => false
def sp_Plan_size_for (K : PySem.W.Frag) (A : Ad) : Sp := fun vs H Q E => ∃ (p z : Addr) (m : PlM) (v : V), vs = [.ref p, v] ∧ PlAt A H p z m ∧ Kind K H v ∧
  (isWish v = false → E (.ref A.BadWish) none H) ∧
  ∀ i, v = .int i → 1 ≤ i → (sizeFor m.sizes i = none → E (.ref A.TooLarge) none H) ∧ ∀ s, sizeFor m.sizes i = some s → Q (.int s) H
def sp_Plan_per (K : PySem.W.Frag) (A : Ad) : Sp := fun vs H Q E => ∃ (p z : Addr) (m : PlM) (v : V), vs = [.ref p, v] ∧ PlAt A H p z m ∧ Kind K H v ∧
  ((∀ i, v = .int i → i ∉ m.sizes) → E (.ref A.NoSize) none H) ∧ ∀ i, v = .int i → i ∈ m.sizes → Q (.int (m.length / i)) H
theorem all_flat_int (l : List Int) : (l.map V.int).all flatV = true := by
  rw [List.all_eq_true]
  intro x hx
  obtain ⟨b, _, rfl⟩ := List.mem_map.mp hx
  rfl
theorem inV_int (i : Int) (l : List Int) : inV (.int i) (l.map V.int) = decide (i ∈ l) := by
  induction l with
  | nil => rfl
  | cons j l ih =>
    have e : inV (.int i) ((j :: l).map V.int) = ((j == i) || inV (.int i) (l.map V.int)) := rfl
    rw [e, ih]
    by_cases h : j = i
    · subst h; simp
    · have h2 : (j == i) = false := by simpa using h
      rw [h2, Bool.false_or]
      exact decide_eq_decide.mpr ⟨fun q => List.mem_cons_of_mem _ q, fun q => by
        rcases List.mem_cons.mp q with q | q
        · exact absurd q.symm h
        · exact q⟩
section
variable {P : Program} {w : World} {K : PySem.W.Frag} {mg : Str → Option Value} {base : Heap} {A : Ad}
theorem ok_Plan_init (T : Tx K mg A) : If_ P w K mg base 2 A.Plan ["self", "pages", "length", "sizes"] (sp_Plan_init K A) := by
  refine Di.ok T.d_Plan_init sc_Plan_init bi_Plan_init (fun vs H Q E h => ?_) (fun f cdv Ar outer s H vs Q E hr h => ?_)
  · obtain ⟨p, dx, v1, v2, v3, xs, rfl, _⟩ := h; rfl
  · obtain ⟨p, dx, v1, v2, v3, xs, rfl, k1, k2, k3, hp, kE, k⟩ := h
    refine ⟨_, (pss_cons (ps_if (PW.pt (pw_or (pt_not (pt_val (pe_df (ok_is_whole T) hr (by decide) (by rfl) (pa_cons (pv 1) (pa_cons pe_int (pa_cons (pe_kint rfl T.k_MOST_PAGES) pa_nil)))))) (pw_or1 (pt_not (pt_val (pe_df (ok_is_whole T) hr (by decide) (by rfl) (pa_cons (pv 2) (pa_cons pe_int (pa_cons (pe_kint rfl T.k_MOST_LENGTH) pa_nil))))))))) (pss_one (ps_err rfl T.e_BadPlan (by rfl) (takes_of rfl rfl rfl rfl)))
    pss_nil)
    (pss_cons (ps_if (PW.pt (pw_or (pt_not (pt_val (pe_callB call_isi (by rfl) T.z_isinstance (by decide +kernel) (pa_cons (pv 3) (pa_cons (pe_bltn (v := .ty "list") (by rfl) T.z_list (by decide +kernel) rfl) pa_nil))))) (pw_or1 (pt_not (pt_chain op_le op_le pe_int (pe_callB call_len_seq (by rfl) T.z_len (by decide +kernel) (pa_cons (pv 3) pa_nil)) (pe_kint rfl T.k_MOST_SIZES)))))) (pss_one (ps_err rfl T.e_BadPlan (by rfl) (takes_of rfl rfl rfl rfl)))
    pss_nil)
    (pss_cons (ps_set (i := 4) sc_Plan_init.nd rfl (Or.inl rfl) pe_int)
    (pss_cons (ps_for (passes_of rfl) rfl (pi_list (pv 3)) (pg_name (i := 5) sc_Plan_init.nd rfl (Or.inl rfl))
    (pss_cons (ps_if (pt_not (pt_val (pe_df (ok_is_whole T) hr (by decide) (by rfl) (pa_cons (pv 5) (pa_cons (pe_op op_add (pv 4) pe_int) (pa_cons (pv 2) pa_nil)))))) (pss_one (ps_err rfl T.e_BadPlan (by rfl) (takes_of rfl rfl rfl rfl)))
    pss_nil)
    (pss_one (ps_set (i := 4) sc_Plan_init.nd rfl (Or.inl rfl) (pv 5)))))
    (pss_cons (ps_fld (pv 0) (pv 1) rfl)
    (pss_cons (ps_fld (pv 0) (pv 2) rfl)
    (pss_one (ps_fld (pv 0) (pe_callTy call_list_of (by rfl) T.z_list (by decide +kernel) (pa_cons (pv 3) pa_nil)) rfl)))))))), ?_⟩
    -- the pages and the length
    have bad : ∀ {b1 b2 b3 : Bool}, isWh v1 1 40 = b1 → isWh v2 1 60 = b2 → szOk xs v2 = b3 → (b1 && b2 && b3) = false → planOk v1 v2 xs = false := fun h1 h2 h3 h => by
      unfold planOk
      rw [h1, h2, h3, h]
    refine ⟨_, rfl, v1, 1, 40, rfl, k1, _, rfl, ?_⟩
    cases e1 : isWh v1 1 40 with
    | false => exact kE (bad e1 rfl rfl rfl)
    | true =>
    obtain ⟨pg, rfl, p1, p2⟩ := isWh_int e1
    refine ⟨_, rfl, v2, 1, 60, rfl, k2, _, rfl, ?_⟩
    cases e2 : isWh v2 1 60 with
    | false => exact kE (bad e1 e2 rfl rfl)
    | true =>
    obtain ⟨ln, rfl, l1, l2⟩ := isWh_int e2
    -- the sizes
    refine ⟨_, rfl, ?_⟩
    cases xs with
    | none =>
      obtain ⟨Ty, ty, hm, hn⟩ := k3
      have fin : E (.ref A.BadPlan) none H := kE (bad (b3 := false) e1 e2 rfl rfl)
      simp only [kinds, List.mem_cons, List.mem_nil_iff, or_false] at hm
      rcases hm with rfl | rfl | rfl | rfl | rfl | rfl
      · exact ⟨_, _, _, _, false, rfl, .ty _, ty, kit_ty (by decide +kernel), _, rfl, fin⟩
      · exact ⟨_, _, _, _, false, rfl, .ty _, ty, kit_ty (by decide +kernel), _, rfl, fin⟩
      · exact ⟨_, _, _, _, false, rfl, .ty _, ty, kit_ty (by decide +kernel), _, rfl, fin⟩
      · exact ⟨_, _, _, _, false, rfl, .ty _, ty, kit_ty (by decide +kernel), _, rfl, fin⟩
      · exact absurd rfl hn
      · exact ⟨_, _, _, _, false, rfl, .ty _, ty, kit_ty (by decide +kernel), _, rfl, fin⟩
    | some xs =>
    obtain ⟨z, rfl, hz, hl, hk⟩ := k3
    have nzp : z ≠ p := ne_of hz hp (by intro q; cases q)
    refine ⟨_, _, _, _, true, rfl, .ty _, tLst hz, kit_ty (by decide +kernel), _, rfl, iteF ?_⟩
    refine ⟨_, rfl, z, _, rfl, .inl (SqL.of hz), _, _, rfl, rfl, _, rfl, ?_⟩
    have bad3 : ∀ {b : Bool}, (decide (1 ≤ xs.length) && decide (xs.length ≤ 8) && rises ln 0 xs) = b → b = false → E (.ref A.BadPlan) none H := fun h1 h2 => kE (bad (b3 := false) e1 e2 (h1.trans h2) rfl)
    refine iteD (fun q1 => ?_) (fun q1 => ?_)
    rotate_left
    · refine ⟨_, rfl, bad3 (b := false) ?_ rfl⟩
      rw [decide_eq_false (by omega)]; rfl
    refine ⟨_, _, rfl, rfl, _, rfl, ?_⟩
    show if (!decide ((xs.length : Int) ≤ 8)) = true then _ else _
    refine iteND (fun q2 => ?_) (fun q2 => ?_)
    · refine bad3 (b := false) ?_ rfl
      rw [decide_eq_false (show ¬ xs.length ≤ 8 by omega)]; simp
    have g1 : decide (1 ≤ xs.length) = true := decide_eq_true (by omega)
    have g2 : decide (xs.length ≤ 8) = true := decide_eq_true (by omega)
    rw [g1, g2] at bad3
    -- for size in sizes
    refine ⟨_, rfl, z, rfl, ⟨_, SqL.of hz⟩, for_list (K := K) (a := z) (xs := xs) (fun i σ H' => H' = H ∧ ∃ (b : Int) (v : Option V), σ = [some (.ref p), some (.int pg), some (.int ln), some (.ref z), some (.int b), v] ∧ rises ln 0 xs = rises ln b (xs.drop i)) ⟨rfl, 0, _, rfl, rfl⟩ (fun i σ H' _ h => by rw [h.1]; exact SqL.of hz) ?_ ?_⟩
    · rintro i x σ H' hx ⟨rfl, b, v, rfl, hr0⟩
      have hxm : x ∈ xs := List.mem_of_getElem? hx
      have hd : xs.drop i = x :: xs.drop (i + 1) := by
        obtain ⟨h1, h2⟩ := List.getElem?_eq_some_iff.mp hx
        rw [List.drop_eq_getElem_cons h1, h2]
      refine ⟨_, rfl, _, rfl, _, _, rfl, rfl, _, rfl, x, b + 1, ln, rfl, hk x hxm, _, rfl, ?_⟩
      rw [hd] at hr0
      cases e3 : isWh x (b + 1) ln with
      | false =>
        refine bad3 (b := false) ?_ rfl
        rw [hr0]
        show (true && true && (isWh x (b + 1) ln && _)) = false
        rw [e3]; rfl
      | true =>
        obtain ⟨j, rfl, _⟩ := isWh_int e3
        refine ⟨_, rfl, rfl, j, _, rfl, hr0.trans ?_⟩
        show (isWh (.int j) (b + 1) ln && rises ln j (xs.drop (i + 1))) = _
        rw [e3]; rfl
    · rintro σ H' ⟨rfl, b, v, rfl, hr0⟩
      rw [List.drop_length] at hr0
      have good : planOk (.int pg) (.int ln) (some xs) = true := by
        unfold planOk
        rw [e1, e2]
        show (true && true && (decide (1 ≤ xs.length) && decide (xs.length ≤ 8) && rises ln 0 xs)) = true
        rw [g1, g2, hr0]; rfl
      obtain ⟨m, mok, m1, m2, m3⟩ := planOk_ok good
      cases m1
      cases m2
      have m4 : xs = m.sizes.map V.int := Option.some.inj m3
      subst m4
      -- the fields
      refine ⟨_, rfl, _, rfl, p, _, dx, _, rfl, hp, T.c_Plan, T.n_Plan_pages, (by decide), ?_⟩
      refine ⟨_, rfl, _, rfl, p, _, dx, _, rfl, upd_same, T.c_Plan, T.n_Plan_length, (by show 1 < 1000; decide), ?_⟩
      refine ⟨_, rfl, z, _, rfl, .inl (SqL.of (by rw [upd_ne nzp, upd_ne nzp]; exact hz)), fun l hl => ?_⟩
      have npl : p ≠ l := fun e => by rw [← e, upd_same] at hl; cases hl
      have hl0 : H' l = none := by rw [upd_ne npl.symm, upd_ne npl.symm] at hl; exact hl
      refine ⟨_, rfl, p, _, dx, _, rfl, (by rw [upd_ne npl]; exact upd_same), T.c_Plan, T.n_Plan_sizes, (by show 2 < 1000; decide), ?_⟩
      refine k m l _ mok rfl rfl m3 hl0 ⟨⟨dx, ?_⟩, ?_, mok⟩ fun b o e nb => ?_
      · rw [upd_same, plF_new _ _ _ m.sizes]
      · rw [upd_ne npl.symm, upd_same]
      · rw [upd_ne nb, upd_ne (ne_of_none e hl0), upd_ne nb, upd_ne nb]
        exact e
theorem ok_Plan_size_for (T : Tx K mg A) : Mf P w K mg base 1 A.Plan "size_for" ["self", "wish"] (sp_Plan_size_for K A) := by
  refine Dm.ok T.d_Plan_size_for sc_Plan_size_for bi_Plan_size_for (fun vs H Q E h => ?_) (fun f cdv Ar outer s H vs Q E hr h => ?_)
  · obtain ⟨p, z, m, v, rfl, _⟩ := h; rfl
  · obtain ⟨p, z, m, v, rfl, S, ⟨Ty, ty, hm, hi⟩, kB, k⟩ := h
    refine ⟨_, (pss_cons (ps_if (PW.pt (pw_or (pt_not (pt_val (pe_callB call_isi (by rfl) T.z_isinstance (by decide +kernel) (pa_cons (pv 1) (pa_cons (pe_bltn (v := .ty "int") (by rfl) T.z_int (by decide +kernel) rfl) pa_nil))))) (pw_or (pt_val (pe_callB call_isi (by rfl) T.z_isinstance (by decide +kernel) (pa_cons (pv 1) (pa_cons (pe_bltn (v := .ty "bool") (by rfl) T.z_bool (by decide +kernel) rfl) pa_nil)))) (pw_or1 (pt_cmpR op_lt (pv 1) pe_int (nomark _)))))) (pss_one (ps_err rfl T.e_BadWish (by rfl) (takes_of rfl rfl rfl rfl)))
    pss_nil)
    (pss_cons (ps_for (passes_of rfl) rfl (pi_list (pe_fld (pv 0) rfl)) (pg_name (i := 2) sc_Plan_size_for.nd rfl (Or.inl rfl))
    (pss_one (ps_if (pt_cmpR op_ge (pv 2) (pv 1) (nomark _)) (pss_one (ps_ret (pv 2)))
    pss_nil)))
    (pss_one (ps_err rfl T.e_TooLarge (by rfl) (takes_of rfl rfl rfl rfl))))), ?_⟩
    refine ⟨_, rfl, ?_⟩
    simp only [kinds, List.mem_cons, List.mem_nil_iff, or_false] at hm
    have nb : ¬ (∃ i, v = .int i) → isWish v = false := fun h => by
      cases v with
      | int i => exact absurd ⟨i, rfl⟩ h
      | _ => rfl
    rcases hm with rfl | rfl | rfl | rfl | rfl | rfl
    · obtain ⟨i, rfl⟩ := hi.mpr rfl
      refine ⟨_, _, _, _, true, rfl, .ty _, ty, kit_ty (by decide +kernel), _, rfl, iteF ⟨_, rfl, ?_⟩⟩
      refine ⟨_, _, _, _, false, rfl, .ty _, ty, kit_ty (by decide +kernel), _, rfl, iteF ⟨_, rfl, _, _, rfl, rfl, _, rfl, ?_⟩⟩
      refine iteD (fun h => kB ?_) (fun h => ?_)
      · show decide (1 ≤ i) = false
        exact decide_eq_false (by omega)
      obtain ⟨kT, kQ⟩ := k i rfl (by omega)
      refine ⟨_, rfl, S.fSizes T ?_⟩
      refine ⟨z, rfl, ⟨_, SqL.of S.sz⟩, for_list (K := K) (a := z) (xs := m.sizes.map V.int) (fun n σ H' => H' = H ∧ ∃ v, σ = [some (.ref p), some (.int i), v] ∧ ∀ s ∈ m.sizes.take n, ¬ i ≤ s) ⟨rfl, _, rfl, fun s hs => by simp at hs⟩ (fun n σ H' _ h => by rw [h.1]; exact SqL.of S.sz) ?_ ?_⟩
      · rintro n x σ H' hx ⟨rfl, v, rfl, hno⟩
        rw [List.getElem?_map] at hx
        cases e : m.sizes[n]? with
        | none => rw [e] at hx; cases hx
        | some s =>
        rw [e] at hx
        cases hx
        obtain ⟨h1, h2⟩ := List.getElem?_eq_some_iff.mp e
        refine ⟨_, rfl, _, rfl, _, _, rfl, rfl, _, rfl, ?_⟩
        refine iteD (fun h => ?_) (fun h => ?_)
        · refine ⟨_, rfl, kQ s ?_⟩
          unfold sizeFor
          rw [List.find?_eq_some_iff_append]
          refine ⟨decide_eq_true h, m.sizes.take n, m.sizes.drop (n + 1), ?_, fun a ha => ?_⟩
          · rw [← h2, List.getElem_cons_drop, List.take_append_drop]
          · have := hno a ha
            simpa using this
        · refine ⟨rfl, _, rfl, fun t ht => ?_⟩
          rw [List.take_succ, e] at ht
          rcases List.mem_append.mp ht with ht | ht
          · exact hno t ht
          · rw [Option.toList_some, List.mem_singleton] at ht
            rw [ht]; exact h
      · rintro σ H' ⟨rfl, v, rfl, hno⟩
        refine kT ?_
        unfold sizeFor
        rw [List.find?_eq_none]
        intro s hs
        rw [List.length_map, List.take_length] at hno
        have := hno s hs
        simpa using this
    · refine ⟨_, _, _, _, true, rfl, .ty _, ty, kit_ty (by decide +kernel), _, rfl, iteF ⟨_, rfl, ?_⟩⟩
      exact ⟨_, _, _, _, true, rfl, .ty _, ty, kit_ty (by decide +kernel), _, rfl, kB (nb fun h => absurd (hi.mp h) (by decide))⟩
    all_goals
      exact ⟨_, _, _, _, false, rfl, .ty _, ty, kit_ty (by decide +kernel), _, rfl, kB (nb fun h => absurd (hi.mp h) (by decide))⟩
theorem ok_Plan_per (T : Tx K mg A) : Mf P w K mg base 2 A.Plan "per" ["self", "size"] (sp_Plan_per K A) := by
  refine Dm.ok T.d_Plan_per sc_Plan_per bi_Plan_per (fun vs H Q E h => ?_) (fun f cdv Ar outer s H vs Q E hr h => ?_)
  · obtain ⟨p, z, m, v, rfl, _⟩ := h; rfl
  · obtain ⟨p, z, m, v, rfl, S, kv, kN, k⟩ := h
    refine ⟨_, (pss_cons (ps_if (PW.pt (pw_or (pt_not (pt_val (pe_df (ok_is_whole T) hr (by decide) (by rfl) (pa_cons (pv 1) (pa_cons pe_int (pa_cons (pe_fld (pv 0) rfl) pa_nil)))))) (pw_or1 (pt_cmpR op_notIn_seq (pv 1) (pe_fld (pv 0) rfl) rfl)))) (pss_one (ps_err rfl T.e_NoSize (by rfl) (takes_of rfl rfl rfl rfl)))
    pss_nil)
    (pss_one (ps_ret (pe_op op_fdiv (pe_fld (pv 0) rfl) (pv 1))))), ?_⟩
    refine ⟨_, rfl, _, rfl, S.fLength T ?_⟩
    refine ⟨v, 1, m.length, rfl, kv, _, rfl, ?_⟩
    cases e : isWh v 1 m.length with
    | false =>
      refine kN fun i hv hi => ?_
      have := S.ok.rng i hi
      subst hv
      have e2 : isWh (.int i) 1 m.length = true := by
        show (decide (1 ≤ i) && decide (i ≤ m.length)) = true
        rw [decide_eq_true this.1, decide_eq_true this.2]; rfl
      rw [e2] at e
      cases e
    | true =>
      obtain ⟨i, rfl, i1, i2⟩ := isWh_int e
      refine ⟨_, rfl, _, rfl, S.fSizes T ?_⟩
      refine ⟨z, _, rfl, .inl (SqL.of S.sz), rfl, all_flat_int _, _, rfl, ?_⟩
      show if (!inV (.int i) (m.sizes.map V.int)) = true then _ else _
      have ei : inV (.int i) (m.sizes.map V.int) = decide (i ∈ m.sizes) := inV_int i m.sizes
      rw [ei]
      refine iteND (fun h => kN fun j hj => ?_) (fun h => ?_)
      · cases hj; exact h
      · refine ⟨_, rfl, S.fLength T ?_⟩
        refine ⟨_, rfl, _, _, rfl, rfl, ⟨by omega, ?_⟩, k i rfl h⟩
        have := S.ok.l2
        omega
end
end Sb
namespace Sb
open PySem PySem.Spec PyProof.Rows L2
/-! ### the sizes that a cell gives -/
def szStep (span l : Int) (s : List Int × Int × Int) : List Int × Int × Int :=
  (if s.2.1 + 1 + s.2.2 % span ≤ l then s.1 ++ [s.2.1 + 1 + s.2.2 % span] else s.1, s.2.1 + 1 + s.2.2 % span, s.2.2 / span)
def szRun (span l c : Int) : Nat → List Int × Int × Int
  | 0 => ([], 0, c / 3)
  | n + 1 => szStep span l (szRun span l c n)
def spanOf (c l : Int) : Int := if c % 3 = 0 then l else 4
def sizesBy (c l : Int) (n : Nat) : List Int := if (szRun (spanOf c l) l c n).1 = [] then [l] else (szRun (spanOf c l) l c n).1
structure SzOk (l : Int) (n : Nat) (ss : List Int) (b : Int) : Prop where
  len : ss.length ≤ n
  ris : ss.Pairwise (· < ·)
  rng : ∀ s ∈ ss, 1 ≤ s ∧ s ≤ l ∧ s ≤ b
  nn : 0 ≤ b
theorem szRun_ok {span l c : Int} (hs : 0 < span) : ∀ n, SzOk l n (szRun span l c n).1 (szRun span l c n).2.1
  | 0 => ⟨Nat.le_refl _, .nil, (fun s hs => nomatch hs), Int.le_refl _⟩
  | n + 1 => by
    have ih := szRun_ok (span := span) (l := l) (c := c) hs n
    have hr := Int.emod_nonneg (szRun span l c n).2.2 (show span ≠ 0 by omega)
    show SzOk l (n + 1) (szStep span l (szRun span l c n)).1 (szStep span l (szRun span l c n)).2.1
    have i1 := ih.len
    have i4 := ih.nn
    unfold szStep
    dsimp only
    split
    · refine ⟨by rw [List.length_append]; simp; omega, ?_, fun s hm => ?_, by omega⟩
      · rw [List.pairwise_append]
        refine ⟨ih.ris, List.pairwise_singleton _ _, fun a ha b hb => ?_⟩
        rw [List.mem_singleton.mp hb]
        have := ih.rng a ha
        omega
      · rcases List.mem_append.mp hm with hm | hm
        · have := ih.rng s hm; omega
        · rw [List.mem_singleton.mp hm]; omega
    · exact ⟨by omega, ih.ris, fun s hm => by have := ih.rng s hm; omega, by omega⟩
theorem span_pos {c l : Int} (hl : 1 ≤ l) : 0 < spanOf c l := by unfold spanOf; split <;> omega
theorem sizesBy_ok {c l : Int} {n : Nat} (hl : 1 ≤ l) (hn : 1 ≤ n) : 1 ≤ (sizesBy c l n).length ∧ (sizesBy c l n).length ≤ n ∧ (sizesBy c l n).Pairwise (· < ·) ∧ ∀ s ∈ sizesBy c l n, 1 ≤ s ∧ s ≤ l := by
  have h := szRun_ok (l := l) (c := c) (span_pos (c := c) hl) n
  unfold sizesBy
  split
  · exact ⟨Nat.le_refl _, hn, List.pairwise_singleton _ _, fun s hs => by rw [List.mem_singleton.mp hs]; omega⟩
  · rename_i hne
    exact ⟨List.length_pos_iff.mpr hne, h.len, h.ris, fun s hs => by have := h.rng s hs; omega⟩
theorem eqv_nil (xs : List Int) : PyData.eqv (dInts xs) (dInts []) = decide (xs = []) := by
  cases xs with
  | nil => rfl
  | cons x xs => simp [PyData.eqv, PyData.eqvAll]
def sp_law_sizes_by (K : PySem.W.Frag) (A : Ad) : Sp := fun vs H Q _ => ∃ (c l : Int) (n : Nat), vs = [.int c, .int l, .int n] ∧ 1 ≤ l ∧ l ≤ 60 ∧ n ≤ 8 ∧
  ∀ q H', H q = none → Same H H' → H' q = some (.lst ((sizesBy c l n).map V.int)) → Q (.ref q) H'
section
variable {P : Program} {w : World} {K : PySem.W.Frag} {mg : Str → Option Value} {base : Heap} {A : Ad}
theorem ok_law_sizes_by (T : Tx K mg A) : Df P w K mg base 1 "_law_sizes_by" ["_law_cell", "_law_length", "_law_many"] (sp_law_sizes_by K A) := by
  refine Dd.ok T.d_law_sizes_by sc_law_sizes_by bi_law_sizes_by (fun vs H Q E h => ?_) (fun f cdv Ar outer s H vs Q E hr h => ?_)
  · obtain ⟨c, l, n, rfl, _⟩ := h; rfl
  · obtain ⟨c, l, n, rfl, l1, l2, hn, k⟩ := h
    refine ⟨_, (pss_cons (ps_set (i := 3) sc_law_sizes_by.nd rfl (Or.inl rfl) (pe_lst pa_nil))
    (pss_cons (ps_set (i := 4) sc_law_sizes_by.nd rfl (Or.inl rfl) pe_int)
    (pss_cons (ps_set (i := 5) sc_law_sizes_by.nd rfl (Or.inl rfl) (pe_op op_fdiv (pv 0) pe_int))
    (pss_cons (ps_set (i := 6) sc_law_sizes_by.nd rfl (Or.inl rfl) pe_int)
    (Evl.pss_cut (ps_if (pt_cmpR op_eq (pe_op op_mod (pv 0) pe_int) pe_int (nomark _)) (pss_one (ps_set (i := 6) sc_law_sizes_by.nd rfl (Or.inl rfl) (pv 1)))
    pss_nil)
    (pss_cons (ps_for (passes_of rfl) rfl (pi_range1 (by rfl) T.z_range (pa_cons (pv 2) pa_nil)) (pg_name (i := 7) sc_law_sizes_by.nd rfl (Or.inl rfl))
    (pss_cons (ps_set (i := 4) sc_law_sizes_by.nd rfl (Or.inl rfl) (pe_op op_add (pe_op op_add (pv 4) pe_int) (pe_op op_mod (pv 5) (pv 6))))
    (pss_cons (ps_set (i := 5) sc_law_sizes_by.nd rfl (Or.inl rfl) (pe_op op_fdiv (pv 5) (pv 6)))
    (pss_one (ps_if (pt_cmpR op_le (pv 4) (pv 1) (nomark _)) (pss_one (ps_expr (pe_bm PySem.F.plainAttrs_list PySem.F.slot_list_append PySem.F.type_list_append mt_append (pv 3) (pa_cons (pv 4) pa_nil))))
    pss_nil)))))
    (pss_cons (ps_if (pt_cmpR (op_eqD hr.units) (pv 3) (pe_lst pa_nil) (nomark _)) (pss_one (ps_expr (pe_bm PySem.F.plainAttrs_list PySem.F.slot_list_append PySem.F.type_list_append mt_append (pv 3) (pa_cons (pv 1) pa_nil))))
    pss_nil)
    (pss_one (ps_ret (pv 3)))))))))), ?_⟩
    -- found = []; before = 0; rest = cell // 3; span = 4
    refine ⟨(by decide), fun q hq => ?_⟩
    refine ⟨_, rfl, _, _, rfl, rfl, ⟨by decide, by decide⟩, ?_⟩
    refine ⟨fun σ H' => H' = upd H q (.lst []) ∧ σ = [some (.int c), some (.int l), some (.int n), some (.ref q), some (.int 0), some (.int (c / 3)), some (.int (spanOf c l)), none], ?_, ?_⟩
    · refine ⟨_, rfl, _, _, rfl, rfl, (by show (0 : Int) < 3; decide), rfl, _, rfl, ?_⟩
      refine iteD (fun h => ?_) (fun h => ?_)
      · refine ⟨_, rfl, rfl, ?_⟩
        have e : spanOf c l = l := if_pos (by simpa using h)
        rw [e]; rfl
      · refine ⟨rfl, ?_⟩
        have e : spanOf c l = 4 := if_neg (by simpa using h)
        rw [e]; rfl
    rintro σ H' ⟨rfl, rfl⟩
    have sp1 := span_pos (c := c) l1
    have sp2 : spanOf c l < 1073741824 := by unfold spanOf; split <;> omega
    have s0 : Same H (upd H q (.lst [])) := fun b o e => by rw [upd_ne (ne_of_none e hq)]; exact e
    -- the loop
    refine ⟨_, rfl, _, rfl, (by omega), (by omega), for_range (lo := 0) (n := _) (fun i σ H' => Same H H' ∧ H' q = some (.lst ((szRun (spanOf c l) l c i).1.map V.int)) ∧ ∃ v, σ = [some (.int c), some (.int l), some (.int n), some (.ref q), some (.int (szRun (spanOf c l) l c i).2.1), some (.int (szRun (spanOf c l) l c i).2.2), some (.int (spanOf c l)), v]) ⟨s0, upd_same, _, rfl⟩ ?_ ?_⟩
    · rintro i σ H1 hi ⟨s1, h1, v, rfl⟩
      have hi2 : i < n := by simpa using hi
      refine ⟨_, rfl, _, _, rfl, rfl, _, rfl, _, rfl, _, _, rfl, rfl, sp1, _, _, rfl, rfl, ?_⟩
      refine ⟨_, rfl, _, rfl, _, _, rfl, rfl, ⟨sp1, sp2⟩, ?_⟩
      refine ⟨_, rfl, _, rfl, _, _, rfl, rfl, _, rfl, ?_⟩
      refine iteD (fun h => ?_) (fun h => ?_)
      · refine ⟨_, rfl, .inl ⟨rfl, _, SqL.of h1⟩, _, rfl, q, _, _, rfl, rfl, h1, ?_, ?_⟩
        · rw [List.length_map]
          have := (szRun_ok (l := l) (c := c) sp1 i).len
          exact Nat.lt_of_le_of_lt (by omega : _ ≤ 8) (by decide)
        · refine ⟨fun b o e => by rw [upd_ne (ne_of_none e hq)]; exact s1 _ _ e, ?_, _, rfl⟩
          rw [upd_same]
          show _ = some (HO.lst ((szStep (spanOf c l) l (szRun (spanOf c l) l c i)).1.map V.int))
          unfold szStep
          dsimp only
          rw [if_pos h, List.map_append]
          rfl
      · refine ⟨s1, ?_, _, rfl⟩
        rw [h1]
        show _ = some (HO.lst ((szStep (spanOf c l) l (szRun (spanOf c l) l c i)).1.map V.int))
        unfold szStep
        dsimp only
        rw [if_neg h]
    · rintro σ H1 ⟨s1, h1, v, rfl⟩
      rw [Int.toNat_natCast] at h1 ⊢
      -- if found == []
      refine ⟨_, rfl, (by decide), fun e he => ?_⟩
      have nqe : q ≠ e := fun z => by rw [z, he] at h1; cases h1
      refine ⟨_, _, dp_ints (SqL.of (by rw [upd_ne nqe]; exact h1)), dp_ints (l := []) (SqL.of upd_same), (sh_ints _).shaped (by decide), (sh_ints _).shaped (by decide), _, rfl, ?_⟩
      rw [eqv_nil]
      have s2 : Same H (upd H1 e (.lst [])) := fun b o eb => by rw [upd_ne (ne_of_none (s1 _ _ eb) he)]; exact s1 _ _ eb
      refine iteD (fun h => ?_) (fun h => ?_)
      · have h2 : (upd H1 e (.lst [])) q = some (.lst []) := by rw [upd_ne nqe, h1, h]; rfl
        refine ⟨_, rfl, .inl ⟨rfl, _, SqL.of h2⟩, _, rfl, q, _, _, rfl, rfl, h2, (by decide), ?_⟩
        refine ⟨_, rfl, k q _ hq (fun b o eb => by rw [upd_ne (ne_of_none eb hq)]; exact s2 _ _ eb) ?_⟩
        rw [upd_same]
        unfold sizesBy
        rw [if_pos h]; rfl
      · refine ⟨_, rfl, k q _ hq s2 ?_⟩
        rw [upd_ne nqe, h1]
        unfold sizesBy
        rw [if_neg h]
end
end Sb
namespace Sb
open PySem PySem.Spec PyProof.Rows L2
def dueV (ss : List Int) (w : Int) : Int := if w < 1 then -1 else (sizeFor ss w).getD (-2)
def foundV (ss : List Int) : V → Int
  | .int i => dueV ss i
  | _ => -1
def slotsV (l : Int) (ss : List Int) : V → Int
  | .int i => if i ∈ ss then l / i else -1
  | _ => -1
def sp_law_due (K : PySem.W.Frag) (A : Ad) : Sp := fun vs H Q _ => ∃ (z : Addr) (ss : List Int) (w : Int), vs = [.ref z, .int w] ∧ H z = some (.lst (ss.map V.int)) ∧ Q (.int (dueV ss w)) H
def sp_law_found (K : PySem.W.Frag) (A : Ad) : Sp := fun vs H Q _ => ∃ (p z : Addr) (m : PlM) (v : V), vs = [.ref p, v] ∧ PlAt A H p z m ∧ Kind K H v ∧ Q (.int (foundV m.sizes v)) H
def sp_law_slots (K : PySem.W.Frag) (A : Ad) : Sp := fun vs H Q _ => ∃ (p z : Addr) (m : PlM) (v : V), vs = [.ref p, v] ∧ PlAt A H p z m ∧ Kind K H v ∧ Q (.int (slotsV m.length m.sizes v)) H
def sp_law (K : PySem.W.Frag) (A : Ad) : Sp := fun vs H Q _ => ∃ (a : Addr) (ns : List Int), vs = [.ref a] ∧ SqL K H a (ns.map V.int) ∧ ns.length ≤ 63 ∧ ∀ H', Q (.bl true) H'
section
variable {P : Program} {w : World} {K : PySem.W.Frag} {mg : Str → Option Value} {base : Heap} {A : Ad}
theorem ok_law_due (T : Tx K mg A) : Df P w K mg base 1 "_law_due" ["_law_sizes", "_law_wish"] (sp_law_due K A) := by
  refine Dd.ok T.d_law_due sc_law_due bi_law_due (fun vs H Q E h => ?_) (fun f cdv Ar outer s H vs Q E hr h => ?_)
  · obtain ⟨z, ss, i, rfl, _⟩ := h; rfl
  · obtain ⟨z, ss, i, rfl, hz, k⟩ := h
    refine ⟨_, (pss_cons (ps_if (pt_cmpR op_lt (pv 1) pe_int (nomark _)) (pss_one (ps_ret (pe_un un_neg pe_int)))
    pss_nil)
    (pss_cons (ps_for (passes_of rfl) rfl (pi_list (pv 0)) (pg_name (i := 2) sc_law_due.nd rfl (Or.inl rfl))
    (pss_one (ps_if (pt_cmpR op_ge (pv 2) (pv 1) (nomark _)) (pss_one (ps_ret (pv 2)))
    pss_nil)))
    (pss_one (ps_ret (pe_un un_neg pe_int))))), ?_⟩
    refine ⟨_, rfl, _, _, rfl, rfl, _, rfl, ?_⟩
    refine iteD (fun h => ?_) (fun h0 => ?_)
    · have e : dueV ss i = -1 := if_pos h
      rw [e] at k
      exact ⟨_, rfl, k⟩
    have ed : dueV ss i = (sizeFor ss i).getD (-2) := if_neg h0
    rw [ed] at k
    refine ⟨_, rfl, z, rfl, ⟨_, SqL.of hz⟩, for_list (K := K) (a := z) (xs := ss.map V.int) (fun n σ H' => H' = H ∧ ∃ v, σ = [some (.ref z), some (.int i), v] ∧ ∀ s ∈ ss.take n, ¬ i ≤ s) ⟨rfl, _, rfl, fun s hs => by simp at hs⟩ (fun n σ H' _ h => by rw [h.1]; exact SqL.of hz) ?_ ?_⟩
    · rintro n x σ H' hx ⟨rfl, v, rfl, hno⟩
      rw [List.getElem?_map] at hx
      cases e : ss[n]? with
      | none => rw [e] at hx; cases hx
      | some s =>
      rw [e] at hx
      cases hx
      obtain ⟨h1, h2⟩ := List.getElem?_eq_some_iff.mp e
      refine ⟨_, rfl, _, rfl, _, _, rfl, rfl, _, rfl, ?_⟩
      refine iteD (fun h => ?_) (fun h => ?_)
      · have es : sizeFor ss i = some s := by
          unfold sizeFor
          rw [List.find?_eq_some_iff_append]
          refine ⟨decide_eq_true h, ss.take n, ss.drop (n + 1), ?_, fun a ha => ?_⟩
          · rw [← h2, List.getElem_cons_drop, List.take_append_drop]
          · have := hno a ha
            simpa using this
        rw [es] at k
        exact ⟨_, rfl, k⟩
      · refine ⟨rfl, _, rfl, fun t ht => ?_⟩
        rw [List.take_succ, e] at ht
        rcases List.mem_append.mp ht with ht | ht
        · exact hno t ht
        · rw [Option.toList_some, List.mem_singleton] at ht
          rw [ht]; exact h
    · rintro σ H' ⟨rfl, v, rfl, hno⟩
      have es : sizeFor ss i = none := by
        unfold sizeFor
        rw [List.find?_eq_none]
        intro s hs
        rw [List.length_map, List.take_length] at hno
        have := hno s hs
        simpa using this
      rw [es] at k
      exact ⟨_, rfl, k⟩
theorem ok_law_found (T : Tx K mg A) : Df P w K mg base 2 "_law_found" ["_law_plan", "_law_wish"] (sp_law_found K A) := by
  refine Dd.ok T.d_law_found sc_law_found bi_law_found (fun vs H Q E h => ?_) (fun f cdv Ar outer s H vs Q E hr h => ?_)
  · obtain ⟨p, z, m, v, rfl, _⟩ := h; rfl
  · obtain ⟨p, z, m, v, rfl, S, kv, k⟩ := h
    refine ⟨_, (pss_one (ps_try_many rfl rfl takes0 (fun W pn xe tk po => (pss_one (ps_ret (pe_mfS (ok_Plan_size_for T) T.c_Plan hr (by decide) tk (pv 0) (pa_cons (pv 1) pa_nil)))))
    (HdsOk.cons ⟨rfl, by decide, .inl T.e_BadWish.g⟩ (fun a oe cls d pn hz hf => (pss_one (ps_ret (pe_un un_neg pe_int)))) (HdsOk.cons ⟨rfl, by decide, .inl T.e_TooLarge.g⟩ (fun a oe cls d pn hz hf => (pss_one (ps_ret (pe_un un_neg pe_int)))) HdsOk.nil)))), ?_⟩
    obtain ⟨dx, o⟩ := S.ob
    refine ⟨_, rfl, p, dx, _, rfl, o, plF_no_size_for _ _, _, rfl, p, z, m, v, rfl, S, kv, fun hw => ?_, fun i hv h1 => ⟨fun hn => ?_, fun s hs => ?_⟩⟩
    · refine ⟨true, T.x_BadWish_BadWish, fun _ a ha => ?_, fun q => nomatch q⟩
      have e : foundV m.sizes v = -1 := by
        cases v with
        | int i =>
          have hw' : decide (1 ≤ i) = false := hw
          exact if_pos (by have := of_decide_eq_false hw'; omega)
        | _ => rfl
      rw [e] at k
      exact ⟨_, rfl, k⟩
    · subst hv
      refine ⟨false, T.x_TooLarge_BadWish, (fun q => nomatch q), fun _ => ⟨true, T.x_TooLarge_TooLarge, fun _ a ha => ?_, fun q => nomatch q⟩⟩
      have e : foundV m.sizes (.int i) = -2 := by
        show dueV m.sizes i = -2
        unfold dueV
        rw [if_neg (by omega), hn]; rfl
      rw [e] at k
      exact ⟨_, rfl, k⟩
    · subst hv
      have e : foundV m.sizes (.int i) = s := by
        show dueV m.sizes i = s
        unfold dueV
        rw [if_neg (by omega), hs]; rfl
      rw [e] at k
      exact k
theorem ok_law_slots (T : Tx K mg A) : Df P w K mg base 3 "_law_slots" ["_law_plan", "_law_size"] (sp_law_slots K A) := by
  refine Dd.ok T.d_law_slots sc_law_slots bi_law_slots (fun vs H Q E h => ?_) (fun f cdv Ar outer s H vs Q E hr h => ?_)
  · obtain ⟨p, z, m, v, rfl, _⟩ := h; rfl
  · obtain ⟨p, z, m, v, rfl, S, kv, k⟩ := h
    refine ⟨_, (pss_one (ps_try_only rfl rfl ⟨rfl, by decide, .inl T.e_NoSize.g⟩ takes0 (fun W pn xe tk po => (pss_one (ps_ret (pe_mfS (ok_Plan_per T) T.c_Plan hr (by decide) tk (pv 0) (pa_cons (pv 1) pa_nil)))))
    (fun a oe cls d pn hz hf => (pss_one (ps_ret (pe_un un_neg pe_int)))))), ?_⟩
    obtain ⟨dx, o⟩ := S.ob
    refine ⟨_, rfl, p, dx, _, rfl, o, plF_no_per _ _, _, rfl, p, z, m, v, rfl, S, kv, fun hw => ?_, fun i hv h1 => ?_⟩
    · refine ⟨true, T.x_NoSize_NoSize, fun _ a ha => ?_, fun q => nomatch q⟩
      have e : slotsV m.length m.sizes v = -1 := by
        cases v with
        | int i => exact if_neg (hw i rfl)
        | _ => rfl
      rw [e] at k
      exact ⟨_, rfl, k⟩
    · subst hv
      have e : slotsV m.length m.sizes (.int i) = m.length / i := if_pos h1
      rw [e] at k
      exact k
theorem ok_law (T : Tx K mg A) {f : Addr} {fd : FuncData} (F : FnP K "law" "law" s_law f fd) : FnOk P w K mg base CX0 4 f fd ["_law_script"] (sp_law K A) := by
  refine L2.FunD.ok F sc_law (fun vs H Q E h => ?_) (fun cdv Ar outer s H vs Q E hr h => ?_)
  · obtain ⟨a, ns, rfl, _⟩ := h; rfl
  · obtain ⟨a, ns, rfl, hS, hlen, k⟩ := h
    refine ⟨_, (pss_cons (ps_set (i := 1) sc_law.nd rfl (Or.inl rfl) (pe_op op_add pe_int (pe_op op_mod (pe_df (ok_law_cell_at T) hr (by decide) (by rfl) (pa_cons (pv 0) (pa_cons pe_int pa_nil))) pe_int)))
    (Evl.pss_cut (ps_if (pt_cmpR op_eq (pe_op op_mod (pe_op op_fdiv (pe_df (ok_law_cell_at T) hr (by decide) (by rfl) (pa_cons (pv 0) (pa_cons pe_int pa_nil))) pe_int) pe_int) pe_int (nomark _)) (pss_one (ps_set (i := 1) sc_law.nd rfl (Or.inl rfl) (pe_op op_add pe_int (pe_op op_mod (pe_op op_fdiv (pe_df (ok_law_cell_at T) hr (by decide) (by rfl) (pa_cons (pv 0) (pa_cons pe_int pa_nil))) pe_int) pe_int))))
    pss_nil)
    (pss_cons (ps_set (i := 2) sc_law.nd rfl (Or.inl rfl) (pe_df (ok_law_sizes_by T) hr (by decide) (by rfl) (pa_cons (pe_df (ok_law_cell_at T) hr (by decide) (by rfl) (pa_cons (pv 0) (pa_cons pe_int pa_nil))) (pa_cons (pv 1) (pa_cons (pe_op op_add pe_int (pe_op op_mod (pe_df (ok_law_cell_at T) hr (by decide) (by rfl) (pa_cons (pv 0) (pa_cons pe_int pa_nil))) pe_int)) pa_nil)))))
    (pss_cons (ps_set (i := 3) sc_law.nd rfl (Or.inl rfl) (pe_if (ok_Plan_init T) T.g_Plan hr (by decide) (by rfl) (pa_cons pe_int (pa_cons (pv 1) (pa_cons (pe_callTy call_list_of (by rfl) T.z_list (by decide +kernel) (pa_cons (pv 2) pa_nil)) pa_nil)))))
    (pss_cons (ps_set (i := 4) sc_law.nd rfl (Or.inl rfl) (pe_op op_add pe_int (pe_op op_mod (pe_op op_fdiv (pe_df (ok_law_cell_at T) hr (by decide) (by rfl) (pa_cons (pv 0) (pa_cons pe_int pa_nil))) pe_int) (pv 1))))
    (Evl.pss_cut (ps_if (pt_cmpR op_eq (pe_op op_mod (pe_df (ok_law_cell_at T) hr (by decide) (by rfl) (pa_cons (pv 0) (pa_cons pe_int pa_nil))) pe_int) pe_int (nomark _)) (pss_one (ps_set (i := 4) sc_law.nd rfl (Or.inl rfl) (pe_df (ok_law_cell_at T) hr (by decide) (by rfl) (pa_cons (pv 0) (pa_cons pe_int pa_nil)))))
    pss_nil)
    (pss_cons (ps_set (i := 5) sc_law.nd rfl (Or.inl rfl) (pe_df (ok_law_found T) hr (by decide) (by rfl) (pa_cons (pv 3) (pa_cons (pv 4) pa_nil))))
    (pss_cons (ps_if (PW.pt (pw_or (pt_not (pt_val (pe_df (ok_law_whole T) hr (by decide) (by rfl) (pa_cons (pv 5) pa_nil)))) (pw_or1 (pt_cmpR op_ne (pv 5) (pe_df (ok_law_due T) hr (by decide) (by rfl) (pa_cons (pv 2) (pa_cons (pv 4) pa_nil))) (nomark _))))) (pss_one (ps_ret pe_bl))
    pss_nil)
    (pss_cons (ps_for (passes_of rfl) rfl (pi_list (pe_lst (pa_cons pe_bl (pa_cons pe_str (pa_cons pe_non pa_nil))))) (pg_name (i := 6) sc_law.nd rfl (Or.inl rfl))
    (pss_one (ps_if (PW.pt (pw_or (pt_cmpR op_ne (pe_df (ok_law_slots T) hr (by decide) (by rfl) (pa_cons (pv 3) (pa_cons (pv 6) pa_nil))) (pe_un un_neg pe_int) (nomark _)) (pw_or1 (pt_cmpR op_ne (pe_df (ok_law_found T) hr (by decide) (by rfl) (pa_cons (pv 3) (pa_cons (pv 6) pa_nil))) (pe_un un_neg pe_int) (nomark _))))) (pss_one (ps_ret pe_bl))
    pss_nil)))
    (pss_cons (ps_for (passes_of rfl) rfl (pi_list (pe_op op_cat (pv 2) (pe_lst (pa_cons (pe_df (ok_law_cell_at T) hr (by decide) (by rfl) (pa_cons (pv 0) (pa_cons pe_int pa_nil))) (pa_cons pe_int (pa_cons (pe_op op_add (pv 1) pe_int) pa_nil)))))) (pg_name (i := 7) sc_law.nd rfl (Or.inl rfl))
    (pss_cons (ps_set (i := 8) sc_law.nd rfl (Or.inl rfl) (pe_df (ok_law_slots T) hr (by decide) (by rfl) (pa_cons (pv 3) (pa_cons (pv 7) pa_nil))))
    (pss_cons (ps_set (i := 9) sc_law.nd rfl (Or.inl rfl) (pe_un un_neg pe_int))
    (Evl.pss_cut (ps_if (pt_cmpR op_in_seq (pv 7) (pv 2) rfl) (pss_one (ps_set (i := 9) sc_law.nd rfl (Or.inl rfl) (pe_op op_fdiv (pv 1) (pv 7))))
    pss_nil)
    (pss_one (ps_if (PW.pt (pw_or (pt_not (pt_val (pe_df (ok_law_whole T) hr (by decide) (by rfl) (pa_cons (pv 8) pa_nil)))) (pw_or1 (pt_cmpR op_ne (pv 8) (pv 9) (nomark _))))) (pss_one (ps_ret pe_bl))
    pss_nil))))))
    (pss_one (ps_ret pe_bl)))))))))))), ?_⟩
    -- the length
    refine ⟨_, rfl, a, ns, 0, rfl, hS, _, _, rfl, rfl, (by show (0 : Int) < 12; decide), _, _, rfl, rfl, ?_⟩
    refine ⟨fun σ H' => H' = H ∧ ∃ l : Int, 1 ≤ l ∧ l ≤ 60 ∧ σ = [some (.ref a), some (.int l), none, none, none, none, none, none, none, none], ?_, ?_⟩
    · refine ⟨_, rfl, a, ns, 0, rfl, hS, _, _, rfl, rfl, ⟨by decide, by decide⟩, _, _, rfl, rfl, (by show (0 : Int) < 4; decide), rfl, _, rfl, ?_⟩
      refine iteD (fun _ => ?_) (fun _ => ?_)
      · refine ⟨_, rfl, a, ns, 0, rfl, hS, _, _, rfl, rfl, ⟨by decide, by decide⟩, _, _, rfl, rfl, (by show (0 : Int) < 60; decide), _, _, rfl, rfl, ?_⟩
        exact ⟨rfl, 1 + cellAt ns 0 / 48 % 60, by omega, by omega, rfl⟩
      · exact ⟨rfl, 1 + cellAt ns 0 % 12, by omega, by omega, rfl⟩
    rintro σ H' ⟨rfl, l, l1, l2, rfl⟩
    -- the sizes
    refine ⟨_, rfl, a, ns, 1, rfl, hS, _, rfl, _, rfl, a, ns, 2, rfl, hS, _, _, rfl, rfl, (by show (0 : Int) < 8; decide), _, _, rfl, rfl, ?_⟩
    refine ⟨cellAt ns 1, l, (1 + cellAt ns 2 % 8).toNat, ?_, l1, l2, by omega, fun q H1 hq s1 h1 => ?_⟩
    · rw [show (((1 + cellAt ns 2 % 8).toNat : Nat) : Int) = 1 + cellAt ns 2 % 8 by omega]; rfl
    have hok := sizesBy_ok (c := cellAt ns 1) (l := l) (n := (1 + cellAt ns 2 % 8).toNat) l1 (by omega)
    have hn8 : (1 + cellAt ns 2 % 8).toNat ≤ 8 := by omega
    generalize sizesBy (cellAt ns 1) l (1 + cellAt ns 2 % 8).toNat = ss at h1 hok
    -- the plan
    have mok : (PlM.mk 3 l ss).Ok := ⟨(by show (1 : Int) ≤ 3; decide), (by show (3 : Int) ≤ 40; decide), l1, l2, hok.1, Nat.le_trans hok.2.1 hn8, hok.2.2.2, hok.2.2.1⟩
    refine ⟨_, rfl, _, rfl, q, _, rfl, .inl (SqL.of h1), fun q2 hq2 p dp np ndp nep => ?_⟩
    have nq : q ≠ q2 := fun e => by rw [e, hq2] at h1; cases h1
    have s2 : Same H1 (upd H1 q2 (.lst (ss.map V.int))) := fun b o e => by rw [upd_ne (ne_of_none e hq2)]; exact e
    have nq2p : q2 ≠ p := fun e => by rw [← e, upd_same] at np; cases np
    have nq2d : q2 ≠ dp := fun e => by rw [← e, upd_same] at ndp; cases ndp
    have hq22 : (upd (upd (upd H1 q2 (.lst (ss.map V.int))) dp (.own p)) p (.ins A.Plan dp [])) q2 = some (.lst (ss.map V.int)) := by rw [upd_ne nq2p, upd_ne nq2d]; exact upd_same
    refine ⟨p, dp, .int 3, .int l, .ref q2, some (ss.map V.int), rfl, .int 3, .int l, ⟨q2, rfl, hq22, (by rw [List.length_map]; have := hok.2.1; omega), fun x hx => ?_⟩, upd_same, fun hf => ?_, fun m z H3 _ e1 e2 e3 hz S k3 => ⟨rfl, ?_⟩⟩
    · obtain ⟨i, _, rfl⟩ := List.mem_map.mp hx
      exact .int i
    · rw [mok.good] at hf; cases hf
    obtain ⟨mp, ml, ms⟩ := m
    obtain rfl : mp = 3 := (V.int.inj e1).symm
    obtain rfl : ml = l := (V.int.inj e2).symm
    have e4 : ss = ms := (List.map_inj_right fun a b h => V.int.inj h).mp (Option.some.inj e3)
    subst e4
    have s3 : Same H1 H3 := fun b o e => Same.made np ndp k3 _ _ (s2 _ _ e)
    have h3 := s3 _ _ h1
    have hS3 := (s1.trans s3).seq hS
    -- the wish
    refine ⟨_, rfl, a, ns, 3, rfl, hS3, _, _, rfl, rfl, ⟨by decide, by decide⟩, _, rfl, _, _, rfl, rfl, (by omega), _, _, rfl, rfl, ?_⟩
    refine ⟨fun σ H' => H' = H3 ∧ ∃ u : Int, σ = [some (.ref a), some (.int ml), some (.ref q), some (.ref p), some (.int u), none, none, none, none, none], ?_, ?_⟩
    · refine ⟨_, rfl, a, ns, 3, rfl, hS3, _, _, rfl, rfl, (by show (0 : Int) < 4; decide), rfl, _, rfl, ?_⟩
      refine iteD (fun _ => ?_) (fun _ => ?_)
      · exact ⟨_, rfl, a, ns, 4, rfl, hS3, rfl, _, rfl⟩
      · exact ⟨rfl, _, rfl⟩
    rintro σ H' ⟨rfl, u, rfl⟩
    -- found
    refine ⟨_, rfl, _, rfl, p, z, _, _, rfl, S, .int u, ?_⟩
    refine ⟨_, rfl, .int _, "int", rfl, tInt, (by decide), _, rfl, ?_⟩
    refine iteF ⟨_, rfl, _, rfl, _, rfl, q, ss, u, rfl, h3, rfl, _, rfl, ?_⟩
    refine iteND (fun h => absurd rfl h) (fun _ => ?_)
    -- the strange ones
    refine ⟨(by show 3 ≤ sizeLine; decide), fun t ht => ?_⟩
    have s4 : Same H' (upd H' t (.lst [.bl true, .str "1", .non])) := fun b o e => by rw [upd_ne (ne_of_none e ht)]; exact e
    generalize hH4 : upd H' t (.lst [.bl true, .str "1", .non]) = H4 at s4
    have ht4 : H4 t = some (.lst [.bl true, .str "1", .non]) := by rw [← hH4]; exact upd_same
    have S4 : PlAt A H4 p z ⟨3, ml, ss⟩ := S.keep fun b o e _ => s4 _ _ e
    have h4 := s4 _ _ h3
    have hS4 := s4.seq hS3
    refine ⟨t, rfl, ⟨_, SqL.of ht4⟩, for_list (K := K) (a := t) (xs := [.bl true, .str "1", .non]) (fun i σ H' => H' = H4 ∧ ∃ v, σ = [some (.ref a), some (.int ml), some (.ref q), some (.ref p), some (.int u), some (.int (foundV ss (.int u))), v, none, none, none]) ⟨rfl, _, rfl⟩ (fun i σ H' _ h => by rw [h.1]; exact SqL.of ht4) ?_ ?_⟩
    · rintro i x σ H' hx ⟨rfl, v, rfl⟩
      have hx2 : Kind K H' x ∧ slotsV ml ss x = -1 ∧ foundV ss x = -1 := by
        have hm : x ∈ [V.bl true, .str "1", .non] := List.mem_of_getElem? hx
        simp only [List.mem_cons, List.mem_nil_iff, or_false] at hm
        rcases hm with rfl | rfl | rfl
        · exact ⟨.bl _, rfl, rfl⟩
        · exact ⟨.str _, rfl, rfl⟩
        · exact ⟨.non, rfl, rfl⟩
      refine ⟨_, rfl, _, rfl, p, z, _, x, rfl, S4, hx2.1, ?_⟩
      refine ⟨_, rfl, rfl, _, rfl, ?_⟩
      refine iteND (fun h => absurd (congrArg V.int hx2.2.1) h) (fun _ => ?_)
      refine ⟨_, rfl, _, rfl, p, z, _, x, rfl, S4, hx2.1, ?_⟩
      refine ⟨_, rfl, rfl, _, rfl, ?_⟩
      refine iteND (fun h => absurd (congrArg V.int hx2.2.2) h) (fun _ => ?_)
      exact ⟨rfl, _, rfl⟩
    rintro σ H' ⟨rfl, v, rfl⟩
    -- the sizes and three others
    refine ⟨_, rfl, _, rfl, a, ns, 4, rfl, hS4, _, rfl, _, _, rfl, rfl, ?_⟩
    refine ⟨(by show 3 ≤ sizeLine; decide), fun r hr => ?_⟩
    have nqr : q ≠ r := fun e => by rw [e, hr] at h4; cases h4
    refine ⟨q, r, _, _, rfl, rfl, (by rw [upd_ne nqr]; exact h4), upd_same, ?_, fun y hy => ?_⟩
    · rw [List.length_map]
      have := hok.2.1
      exact Nat.le_trans (by show ss.length + 3 ≤ 11; omega) (by decide : 11 ≤ sizeLine)
    have hex : ∃ ys : List Int, ss.map V.int ++ [.int (cellAt ns 4), .int 0, .int (ml + 1)] = ys.map V.int := ⟨ss ++ [cellAt ns 4, 0, ml + 1], by rw [List.map_append]; rfl⟩
    obtain ⟨ys, hys⟩ := hex
    rw [hys]
    have nyr : y ≠ r := fun e => by rw [e, upd_same] at hy; cases hy
    have hy4 : H' y = none := by rw [upd_ne nyr] at hy; exact hy
    generalize hH5 : upd (upd H' r _) y _ = H5
    have s5 : Same H' H5 := fun b o e => by
      rw [← hH5, upd_ne (ne_of_none e hy4), upd_ne (ne_of_none e hr)]
      exact e
    have hy5 : H5 y = some (.lst (ys.map V.int)) := by rw [← hH5]; exact upd_same
    have S5 : PlAt A H5 p z ⟨3, ml, ss⟩ := S4.keep fun b o e _ => s5 _ _ e
    have h5 := s5 _ _ h4
    refine ⟨y, rfl, ⟨_, SqL.of hy5⟩, for_list (K := K) (a := y) (xs := ys.map V.int) (fun i σ H' => H' = H5 ∧ ∃ v w1 w2, σ = [some (.ref a), some (.int ml), some (.ref q), some (.ref p), some (.int u), some (.int (foundV ss (.int u))), v, w1, w2.1, w2.2]) ⟨rfl, _, none, (none, none), rfl⟩ (fun i σ H' _ h => by rw [h.1]; exact SqL.of hy5) ?_ ?_⟩
    · rintro i x σ H6 hx ⟨rfl, v, w1, ⟨w2, w3⟩, rfl⟩
      rw [List.getElem?_map] at hx
      cases e : ys[i]? with
      | none => rw [e] at hx; cases hx
      | some s =>
      rw [e] at hx
      cases hx
      refine ⟨_, rfl, _, rfl, p, z, _, .int s, rfl, S5, .int s, ?_⟩
      refine ⟨_, rfl, ?_⟩
      refine ⟨fun σ H' => H' = H6 ∧ σ = [some (.ref a), some (.int ml), some (.ref q), some (.ref p), some (.int u), some (.int (foundV ss (.int u))), v, some (.int s), some (.int (slotsV ml ss (.int s))), some (.int (slotsV ml ss (.int s)))], ?_, ?_⟩
      · refine ⟨_, rfl, _, rfl, q, _, rfl, .inl (SqL.of h5), rfl, all_flat_int _, _, rfl, ?_⟩
        show if inV (.int s) (ss.map V.int) = true then _ else _
        rw [inV_int]
        refine iteD (fun h => ?_) (fun h => ?_)
        · have hs1 := hok.2.2.2 s h
          refine ⟨_, rfl, _, rfl, _, _, rfl, rfl, ⟨by omega, by omega⟩, rfl, ?_⟩
          have e2 : slotsV ml ss (.int s) = ml / s := if_pos h
          rw [e2]; rfl
        · refine ⟨rfl, ?_⟩
          have e2 : slotsV ml ss (.int s) = -1 := if_neg h
          rw [e2]; rfl
      rintro σ H' ⟨rfl, rfl⟩
      refine ⟨_, rfl, .int _, "int", rfl, tInt, (by decide), _, rfl, ?_⟩
      refine iteF ⟨_, rfl, _, rfl, rfl, _, rfl, ?_⟩
      refine iteND (fun h => absurd rfl h) (fun _ => ?_)
      exact ⟨rfl, v, _, (_, _), rfl⟩
    · rintro σ H6 ⟨rfl, v, w1, w2, rfl⟩
      exact k _
end
end Sb
set_option maxHeartbeats 0
namespace Sb
open PySem PySem.W PySem.Calls PySem.Spec PyProof.Rows L2
def dd_is_whole : He.DefD := ⟨("is_whole", none), "is_whole", "is_whole", defArgs s_is_whole, defBody s_is_whole, defScope s_is_whole, [], []⟩
def dd_Plan_init : He.DefD := ⟨("Plan", some "__init__"), "__init__", "Plan.__init__", defArgs s_Plan_init, defBody s_Plan_init, defScope s_Plan_init, [], []⟩
def dd_Plan_size_for : He.DefD := ⟨("Plan", some "size_for"), "size_for", "Plan.size_for", defArgs s_Plan_size_for, defBody s_Plan_size_for, defScope s_Plan_size_for, [], []⟩
def dd_Plan_per : He.DefD := ⟨("Plan", some "per"), "per", "Plan.per", defArgs s_Plan_per, defBody s_Plan_per, defScope s_Plan_per, [], []⟩
def dd_law_cell_at : He.DefD := ⟨("_law_cell_at", none), "_law_cell_at", "_law_cell_at", defArgs s_law_cell_at, defBody s_law_cell_at, defScope s_law_cell_at, [], []⟩
def dd_law_whole : He.DefD := ⟨("_law_whole", none), "_law_whole", "_law_whole", defArgs s_law_whole, defBody s_law_whole, defScope s_law_whole, [], []⟩
def dd_law_sizes_by : He.DefD := ⟨("_law_sizes_by", none), "_law_sizes_by", "_law_sizes_by", defArgs s_law_sizes_by, defBody s_law_sizes_by, defScope s_law_sizes_by, [], []⟩
def dd_law_due : He.DefD := ⟨("_law_due", none), "_law_due", "_law_due", defArgs s_law_due, defBody s_law_due, defScope s_law_due, [], []⟩
def dd_law_found : He.DefD := ⟨("_law_found", none), "_law_found", "_law_found", defArgs s_law_found, defBody s_law_found, defScope s_law_found, [], []⟩
def dd_law_slots : He.DefD := ⟨("_law_slots", none), "_law_slots", "_law_slots", defArgs s_law_slots, defBody s_law_slots, defScope s_law_slots, [], []⟩
def dd_law : He.DefD := ⟨("law", none), "law", "law", defArgs s_law, defBody s_law, defScope s_law, [], []⟩
def fn : List He.DefD := [dd_is_whole, dd_Plan_init, dd_Plan_size_for, dd_Plan_per, dd_law_cell_at, dd_law_whole, dd_law_sizes_by, dd_law_due, dd_law_found, dd_law_slots, dd_law]
def fa : List He.Fa := [.free "ValueError", .free "abs", .free "bool", .free "int", .free "isinstance", .free "len", .free "list", .free "range", .int "MOST_PAGES" 40, .int "MOST_LENGTH" 60, .int "MOST_SIZES" 8, .glo "RoomError", .exc "RoomError", .glo "BadPlan", .exc "BadPlan", .glo "BadWish", .exc "BadWish", .glo "TooLarge", .exc "TooLarge", .glo "NoSize", .exc "NoSize", .exm "BadPlan" "BadWish" false, .exm "BadPlan" "TooLarge" false, .exm "BadPlan" "NoSize" false, .exm "BadWish" "BadWish" true, .exm "BadWish" "TooLarge" false, .exm "BadWish" "NoSize" false, .exm "TooLarge" "BadWish" false, .exm "TooLarge" "TooLarge" true, .exm "TooLarge" "NoSize" false, .exm "NoSize" "BadWish" false, .exm "NoSize" "TooLarge" false, .exm "NoSize" "NoSize" true, .cls "Plan", .glo "Plan", .noat "Plan" "pages", .noat "Plan" "length", .noat "Plan" "sizes", .glo "is_whole", .mkr "Plan", .meth "Plan" "size_for", .meth "Plan" "per", .glo "_law_cell_at", .glo "_law_whole", .glo "_law_sizes_by", .glo "_law_due", .glo "_law_found", .glo "_law_slots", .glo "law"]
theorem facts {K : PySem.W.Frag} {h : Heap} {mg : Str → Option Value} (X : K.In h) (G : h.Ns mainGlobals mg) (c : He.SaysD fa fn K) : Tx K mg ⟨He.ga K "Plan", He.ga K "RoomError", He.ga K "BadPlan", He.ga K "BadWish", He.ga K "TooLarge", He.ga K "NoSize"⟩ where
  z_ValueError := He.free_ok X G (c.fact 0 (f := .free "ValueError") rfl)
  z_abs := He.free_ok X G (c.fact 1 (f := .free "abs") rfl)
  z_bool := He.free_ok X G (c.fact 2 (f := .free "bool") rfl)
  z_int := He.free_ok X G (c.fact 3 (f := .free "int") rfl)
  z_isinstance := He.free_ok X G (c.fact 4 (f := .free "isinstance") rfl)
  z_len := He.free_ok X G (c.fact 5 (f := .free "len") rfl)
  z_list := He.free_ok X G (c.fact 6 (f := .free "list") rfl)
  z_range := He.free_ok X G (c.fact 7 (f := .free "range") rfl)
  k_MOST_PAGES := He.int_ok X G (c.fact 8 (f := .int "MOST_PAGES" 40) rfl)
  k_MOST_LENGTH := He.int_ok X G (c.fact 9 (f := .int "MOST_LENGTH" 60) rfl)
  k_MOST_SIZES := He.int_ok X G (c.fact 10 (f := .int "MOST_SIZES" 8) rfl)
  e_RoomError := (have z := He.exc_ok (c.fact 12 (f := .exc "RoomError") rfl); ⟨He.glo_ok X G (c.fact 11 (f := .glo "RoomError") rfl), z.1, z.2.1, z.2.2.1, z.2.2.2⟩)
  e_BadPlan := (have z := He.exc_ok (c.fact 14 (f := .exc "BadPlan") rfl); ⟨He.glo_ok X G (c.fact 13 (f := .glo "BadPlan") rfl), z.1, z.2.1, z.2.2.1, z.2.2.2⟩)
  e_BadWish := (have z := He.exc_ok (c.fact 16 (f := .exc "BadWish") rfl); ⟨He.glo_ok X G (c.fact 15 (f := .glo "BadWish") rfl), z.1, z.2.1, z.2.2.1, z.2.2.2⟩)
  e_TooLarge := (have z := He.exc_ok (c.fact 18 (f := .exc "TooLarge") rfl); ⟨He.glo_ok X G (c.fact 17 (f := .glo "TooLarge") rfl), z.1, z.2.1, z.2.2.1, z.2.2.2⟩)
  e_NoSize := (have z := He.exc_ok (c.fact 20 (f := .exc "NoSize") rfl); ⟨He.glo_ok X G (c.fact 19 (f := .glo "NoSize") rfl), z.1, z.2.1, z.2.2.1, z.2.2.2⟩)
  x_BadPlan_BadWish := He.exm_ok (c.fact 21 (f := .exm "BadPlan" "BadWish" false) rfl)
  x_BadPlan_TooLarge := He.exm_ok (c.fact 22 (f := .exm "BadPlan" "TooLarge" false) rfl)
  x_BadPlan_NoSize := He.exm_ok (c.fact 23 (f := .exm "BadPlan" "NoSize" false) rfl)
  x_BadWish_BadWish := He.exm_ok (c.fact 24 (f := .exm "BadWish" "BadWish" true) rfl)
  x_BadWish_TooLarge := He.exm_ok (c.fact 25 (f := .exm "BadWish" "TooLarge" false) rfl)
  x_BadWish_NoSize := He.exm_ok (c.fact 26 (f := .exm "BadWish" "NoSize" false) rfl)
  x_TooLarge_BadWish := He.exm_ok (c.fact 27 (f := .exm "TooLarge" "BadWish" false) rfl)
  x_TooLarge_TooLarge := He.exm_ok (c.fact 28 (f := .exm "TooLarge" "TooLarge" true) rfl)
  x_TooLarge_NoSize := He.exm_ok (c.fact 29 (f := .exm "TooLarge" "NoSize" false) rfl)
  x_NoSize_BadWish := He.exm_ok (c.fact 30 (f := .exm "NoSize" "BadWish" false) rfl)
  x_NoSize_TooLarge := He.exm_ok (c.fact 31 (f := .exm "NoSize" "TooLarge" false) rfl)
  x_NoSize_NoSize := He.exm_ok (c.fact 32 (f := .exm "NoSize" "NoSize" true) rfl)
  c_Plan := He.cls_ok (c.fact 33 (f := .cls "Plan") rfl)
  g_Plan := He.glo_ok X G (c.fact 34 (f := .glo "Plan") rfl)
  n_Plan_pages := He.noat_ok (c.fact 35 (f := .noat "Plan" "pages") rfl)
  n_Plan_length := He.noat_ok (c.fact 36 (f := .noat "Plan" "length") rfl)
  n_Plan_sizes := He.noat_ok (c.fact 37 (f := .noat "Plan" "sizes") rfl)
  d_is_whole := (have z := c.def_ 0 (d := dd_is_whole) rfl; z.elim fun fd F => ⟨_, fd, He.glo_ok X G (c.fact 38 (f := .glo "is_whole") rfl), F⟩)
  d_Plan_init := (have z := c.def_ 1 (d := dd_Plan_init) rfl; z.elim fun fd F => ⟨_, fd, He.mkr_ok (c.fact 39 (f := .mkr "Plan") rfl), F⟩)
  d_Plan_size_for := (have z := c.def_ 2 (d := dd_Plan_size_for) rfl; z.elim fun fd F => ⟨_, fd, He.meth_ok (c.fact 40 (f := .meth "Plan" "size_for") rfl), F⟩)
  d_Plan_per := (have z := c.def_ 3 (d := dd_Plan_per) rfl; z.elim fun fd F => ⟨_, fd, He.meth_ok (c.fact 41 (f := .meth "Plan" "per") rfl), F⟩)
  d_law_cell_at := (have z := c.def_ 4 (d := dd_law_cell_at) rfl; z.elim fun fd F => ⟨_, fd, He.glo_ok X G (c.fact 42 (f := .glo "_law_cell_at") rfl), F⟩)
  d_law_whole := (have z := c.def_ 5 (d := dd_law_whole) rfl; z.elim fun fd F => ⟨_, fd, He.glo_ok X G (c.fact 43 (f := .glo "_law_whole") rfl), F⟩)
  d_law_sizes_by := (have z := c.def_ 6 (d := dd_law_sizes_by) rfl; z.elim fun fd F => ⟨_, fd, He.glo_ok X G (c.fact 44 (f := .glo "_law_sizes_by") rfl), F⟩)
  d_law_due := (have z := c.def_ 7 (d := dd_law_due) rfl; z.elim fun fd F => ⟨_, fd, He.glo_ok X G (c.fact 45 (f := .glo "_law_due") rfl), F⟩)
  d_law_found := (have z := c.def_ 8 (d := dd_law_found) rfl; z.elim fun fd F => ⟨_, fd, He.glo_ok X G (c.fact 46 (f := .glo "_law_found") rfl), F⟩)
  d_law_slots := (have z := c.def_ 9 (d := dd_law_slots) rfl; z.elim fun fd F => ⟨_, fd, He.glo_ok X G (c.fact 47 (f := .glo "_law_slots") rfl), F⟩)
  d_law := (have z := c.def_ 10 (d := dd_law) rfl; z.elim fun fd F => ⟨_, fd, He.glo_ok X G (c.fact 48 (f := .glo "law") rfl), F⟩)
abbrev R : PySem.W.OpenRow := PySem.W.OpenLaw.row PySem.Challenge.rw_slabroom_k01_size_for
abbrev hk : PySem.W.Hook := He.hookD 4 fa fn
def ob (s : PySem.W.SharedT) : He.AlD := He.obsDG 4 fa fn (HandSHeadRun.getT s)
theorem ob_eq (s : PySem.W.SharedT) : ob s = hk.obs s.abs := He.obsDG_eq (HandSHeadRun.getT_eq s)
def names : List PySem.Str := (["RoomError", "BadPlan", "BadWish", "TooLarge", "NoSize", "MOST_PAGES", "MOST_LENGTH", "MOST_SIZES", "is_whole", "Plan", "_law_cell_at", "_law_whole", "_law_sizes_by", "_law_due", "_law_found", "_law_slots"] : List PySem.Str)
theorem run (w : World) : HandSHeadRun.RunEq R (PySem.W.view R.prog [19]) hk ob 4000 names w := by
  intro os
  kernel_rfl
end Sb
open PySem PySem.W PySem.Calls PyProof.Rows in
set_option maxRecDepth 100000 in
set_option maxHeartbeats 0 in
theorem PySem.Challenge.cw_slabroom_k01_size_for_holds : PySem.Challenge.rw_slabroom_k01_size_for.Holds := by
  w_on; o_law
  refine HandSHeadRun.head_any (r := OpenLaw.row PySem.Challenge.rw_slabroom_k01_size_for) (q := view (OpenLaw.row PySem.Challenge.rw_slabroom_k01_size_for).prog [19]) (H := Sb.hk) (ob := Sb.ob) (M := 4000) (loose := Sb.names) (d := HandSHeadRun.topDef (OpenLaw.row PySem.Challenge.rw_slabroom_k01_size_for).prog 19) (kwd := []) Sb.ob_eq
    (by kernel_rfl) (fun s => by kernel_rfl) Sb.run (by kernel_rfl) (by kernel_rfl) (by kernel_rfl) (by rfl) (by first | assumption | decide +kernel) (by decide +kernel) ⟨rfl, rfl, rfl, rfl, rfl, by decide +kernel⟩ ?hw ?hc
  case hw => w_witness2
  case hc =>
    refine L2.walk_ofE (l := PySem.Challenge.rw_slabroom_k01_size_for) (n := 63) (k := 4) (x := "_law_script") (CX := L2.CX0) rfl (by decide) (by kernel_rfl) ⟨rfl, by decide, by decide⟩ ?F (fun _ _ _ _ z => z)
    intro w mg fa h Y G hmg0
    obtain ⟨K, KX, c⟩ := Y
    have hmg : mg ("law" : PySem.Str) = some (.ref fa) := by
      have e : (HandSHeadRun.topDef (OpenLaw.row PySem.Challenge.rw_slabroom_k01_size_for).prog 19).name = ("law" : PySem.Str) := by kernel_rfl
      rw [← e]
      exact hmg0
    have T := Sb.facts KX G c
    obtain ⟨f, fd, g, F⟩ := T.d_law
    have e := hmg.symm.trans g
    cases e
    refine ⟨K, fd, Sb.sp_law K _, KX, fun s u => L2.FunD.bindsA F Sb.bi_law s [u] rfl, fun H a ns hl _ hS => ⟨a, ns, rfl, hS, hl, fun _ => rfl⟩, fun base _ _ => Sb.ok_law T F⟩
#print axioms PySem.Challenge.cw_slabroom_k01_size_for_holds
