import PyProof.Rows.All
import Wide.All
import OpenK.AllK
import Wide.FinOn
import HandS.ForMost
import HandS.Exc
import HandS.TryOnly
import HandS.ExcOwn
import HandS.WordsExc
import HandS.Defaults
import HandS.More
import HandS.IsInst
import HandS.Zip
import HandS.Sort
import HandS.SortRule
import HandS.TupAny
import HandS.DictTup
import HandS.Small
import HandS.NoneIn
import HandS.Lambda
import HandS.EndTab
import HandS.HeadHook4
import HandS.HeadWalk
import HandS.Head0
import HandS.Head1
import HandS.Head2
import KE.GoesMore
import KE.GoesZip
import PyProof.Rows.SetFrom
import KE.KDictLaws
import HandS.ListItems
import KE.KSortTupG
import HandS.ExcIs
import KE.KStateDown
import HandS.Style
import PyProof.Rows.ReprR
import PyProof.ReprLen
import PySem.Challenge.RW_pennyroll_k52_whole_to_the_penny
set_option Elab.async false
set_option linter.all false
set_option maxRecDepth 100000
set_option maxHeartbeats 4000000
namespace K5
open PySem PySem.Spec PyProof.Rows L2
/-! ### the text by places -/
def top (i : Nat) : Stmt := PySem.Challenge.pw_pennyroll_k52_whole_to_the_penny.main.body.getD i (.Pass ⟨0, 0, 0, 0⟩)

/-! ### callables -/
abbrev FnP (K : PySem.W.Frag) (x q : Str) (st : Stmt) (f : Addr) (fd : FuncData) : Prop := FunD K x q (defArgs st) (defBody st) (defScope st) [] [] f fd
/-- the def st stands at the module's name x -/
def DefAt (K : PySem.W.Frag) (mg : Str → Option Value) (x : Str) (st : Stmt) : Prop := ∃ f fd, FnP K x x st f fd ∧ mg x = some (.ref f)
/-- a def that may be called by its name -/
structure Cl (P : Program) (w : World) (K : PySem.W.Frag) (mg : Str → Option Value) (base : Heap) (CX : CXT) (k : Nat) (x : Str) (sp : Sp) : Prop where
  ex : ∃ (f : Addr) (fd : FuncData) (ps : List Str), FnOk P w K mg base CX k f fd ps sp ∧ mg x = some (.ref f) ∧ PySem.W.keepIn K (.ref f) = true ∧ Binds K fd ps []
abbrev BindH (x q : Str) (st : Stmt) (ps : List Str) : Prop := ∀ (kV doc pm : Value) (an : Option Addr) (cdv ct : Value) (us : List Value), us.length = ps.length →
  bindArgs (PySem.W.fnOf x q (defArgs st) (defBody st) (defScope st) .none kV doc pm an cdv ct) ⟨us, []⟩ = pure (ps.zip us)
section
variable {P : Program} {w : World} {K : PySem.W.Frag} {mg : Str → Option Value} {base : Heap} {CX : CXT} {x : Str} {st : Stmt} {N ps : List Str} {k : Nat} {sp : Sp}
theorem Cl.of (F : DefAt K mg x st) (S : FnScope N ps (defScope st)) (hb : BindH x x st ps) (len : ∀ vs H Q E, sp vs H Q E → vs.length = ps.length)
    (hbody : ∀ (f : Addr) (cdv : Value) (A : Around) (outer : List Env) (s : Shared) (H : Hp) (vs : List V) (Q : VK) (E : XK), Room k (A.deeper (envOfC x (defScope st) s.heap.objs.size f cdv)) → sp vs H Q E →
      ∃ t, PSs (cxOf CX P w K mg base N x (defScope st) f cdv A outer s H E) (defBody st) t ∧ t { nx := fun _ H' => Q .non H', rt := Q } (start N vs) H) : Cl P w K mg base CX (k + 1) x sp := by
  obtain ⟨f, fd, F, hm⟩ := F
  exact ⟨f, fd, ps, F.ok S len (hbody f), hm, F.kp, F.bindsN hb⟩
theorem Cl.mono {j : Nat} (c : Cl P w K mg base CX j x sp) (h : j ≤ k) : Cl P w K mg base CX k x sp := by
  obtain ⟨f, fd, ps, F, r⟩ := c.ex
  exact ⟨f, fd, ps, F.mono h, r⟩
end
section
variable {X : Cx} {CX : CXT} {k : Nat} {x : Str} {sp : Sp} {E : XK} {p pos apos : Pos} {e o : Expr} {es : List Expr} {ta : TE} {t : TA}
theorem pc (c : Cl X.prog X.w X.K X.mg X.base CX k x sp) (hr : Room k X.A) (hx : Passes CX X E) (ha : PA X (e :: es) t) (hg : Gl X x := by rfl) (hdb : (x == ("__debug__" : Str)) = false := by decide)
    (he : starEach (e :: es) X.env = (false, eval e X.env) :: starEach es X.env := by rfl) (hpl : (backTo pos (starEach es X.env)).any (·.1) = false := by rfl) :
    PE X (.Call (.Name x p) (e :: es) [] pos) (tCall sp [] E t) := by
  obtain ⟨f, fd, ps, F, hm, kp, b⟩ := c.ex
  exact pe_call F hr hg hm kp b .nil hx ha hdb he hpl
end
/-- a method that may be called -/
structure Mt (P : Program) (w : World) (K : PySem.W.Frag) (mg : Str → Option Value) (base : Heap) (CX : CXT) (k : Nat) (C : Addr) (m : Str) (sp : Sp) : Prop where
  ex : ∃ (f : Addr) (fd : FuncData) (ps : List Str), FnOk P w K mg base CX k f fd ps sp ∧ Cls K C ∧ Meth K C m f ∧ Binds K fd ps []
/-- the method st of the class at C -/
def MetAt (K : PySem.W.Frag) (C : Addr) (m q : Str) (st : Stmt) : Prop := ∃ f fd, FnP K m q st f fd ∧ Cls K C ∧ Meth K C m f
section
variable {P : Program} {w : World} {K : PySem.W.Frag} {mg : Str → Option Value} {base : Heap} {CX : CXT} {C : Addr} {m q : Str} {st : Stmt} {N ps : List Str} {k : Nat} {sp : Sp}
theorem Mt.of (F : MetAt K C m q st) (S : FnScope N ps (defScope st)) (hb : BindH m q st ps) (len : ∀ vs H Q E, sp vs H Q E → vs.length = ps.length)
    (hbody : ∀ (f : Addr) (cdv : Value) (A : Around) (outer : List Env) (s : Shared) (H : Hp) (vs : List V) (Q : VK) (E : XK), Room k (A.deeper (envOfC q (defScope st) s.heap.objs.size f cdv)) → sp vs H Q E →
      ∃ t, PSs (cxOf CX P w K mg base N q (defScope st) f cdv A outer s H E) (defBody st) t ∧ t { nx := fun _ H' => Q .non H', rt := Q } (start N vs) H) : Mt P w K mg base CX (k + 1) C m sp := by
  obtain ⟨f, fd, F, c, me⟩ := F
  exact ⟨f, fd, ps, F.ok S len (hbody f), c, me, F.bindsN hb⟩
theorem Mt.mono {j : Nat} (c : Mt P w K mg base CX j C m sp) (h : j ≤ k) : Mt P w K mg base CX k C m sp := by
  obtain ⟨f, fd, ps, F, r⟩ := c.ex
  exact ⟨f, fd, ps, F.mono h, r⟩
end
/-! ### heaps: what stays -/
/-- the tuples stay -/
def Tk (H H' : Hp) : Prop := ∀ b xs, H b = some (.tup xs) → H' b = some (.tup xs)
theorem _root_.L2.Same.tk {H H' : Hp} (s : Same H H') : Tk H H' := fun b xs h => s b _ h
theorem Tk.refl (H : Hp) : Tk H H := fun _ _ h => h
theorem Tk.trans {H H1 H2 : Hp} (a : Tk H H1) (b : Tk H1 H2) : Tk H H2 := fun c o h => b c o (a c o h)
theorem _root_.L2.Same.new {H : Hp} {p : Addr} {o : HO} (h : H p = none) : Same H (upd H p o) := fun a u e => by
  rw [upd_ne (ne_of_none e h)]
  exact e
theorem _root_.L2.Same.mut {H H' : Hp} {p : Addr} {o : HO} (e : Same H H') (h : H p = none) : Same H (upd H' p o) := fun a u ha => by
  rw [upd_ne (ne_of_none ha h)]
  exact e a u ha
theorem Tk.upd {H : Hp} {p : Addr} {o u : HO} (h : H p = some o) (ho : ∀ xs, o ≠ .tup xs) : Tk H (upd H p u) := fun b xs e => by
  have hb : b ≠ p := fun z => by
    rw [z, h] at e
    exact ho xs (Option.some.inj e)
  rw [upd_ne hb]
  exact e
/-- a new object: what follows -/
def New (H : Hp) (o : HO) (Q : V → Hp → Prop) : Prop := ∀ p H', H p = none → Same H H' → H' p = some o → Q (.ref p) H'
theorem New.at {H : Hp} {o : HO} {Q : V → Hp → Prop} (k : New H o Q) : ∀ p, H p = none → Q (.ref p) (upd H p o) := fun p hp => k p _ hp (Same.new hp) upd_same
theorem New.imp {H : Hp} {o : HO} {Q Q' : V → Hp → Prop} (k : New H o Q) (h : ∀ p H', H p = none → Same H H' → H' p = some o → Q (.ref p) H' → Q' (.ref p) H') : New H o Q' := fun p H' a b c => h p H' a b c (k p H' a b c)

/-! ### typed values -/
abbrev Rel (α : Type) := Hp → V → α → Prop
class Mon {α : Type} (A : Rel α) : Prop where
  go : ∀ {H H' : Hp} {v : V} {x : α}, Tk H H' → A H v x → A H' v x
theorem mn {α : Type} {A : Rel α} [Mon A] {H H' : Hp} {v : V} {x : α} (s : Same H H') (h : A H v x) : A H' v x := Mon.go (Same.tk s) h
theorem mnL {α : Type} {A : Rel α} [Mon A] {H H' : Hp} (s : Tk H H') : ∀ {vs : List V} {xs : List α}, Paired (A H) vs xs → Paired (A H') vs xs
  | _, _, .nil => .nil
  | _, _, .cons r t => .cons (Mon.go s r) (mnL s t)
def rI : Rel Int := fun _ v i => v = .int i
def rS : Rel Str := fun _ v z => v = .str z
def rB : Rel Bool := fun _ v b => v = .bl b
def rP {α β : Type} (A : Rel α) (B : Rel β) : Rel (α × β) := fun H v x => ∃ a p q, v = .ref a ∧ H a = some (.tup [p, q]) ∧ A H p x.1 ∧ B H q x.2
def rT3 {α β γ : Type} (A : Rel α) (B : Rel β) (C : Rel γ) : Rel (α × β × γ) := fun H v x => ∃ a p q r, v = .ref a ∧ H a = some (.tup [p, q, r]) ∧ A H p x.1 ∧ B H q x.2.1 ∧ C H r x.2.2
def rT5 {α β γ δ ε : Type} (A : Rel α) (B : Rel β) (C : Rel γ) (D : Rel δ) (E : Rel ε) : Rel (α × β × γ × δ × ε) := fun H v x => ∃ a p q r s t, v = .ref a ∧ H a = some (.tup [p, q, r, s, t]) ∧
  A H p x.1 ∧ B H q x.2.1 ∧ C H r x.2.2.1 ∧ D H s x.2.2.2.1 ∧ E H t x.2.2.2.2
def rTL {α : Type} (A : Rel α) : Rel (List α) := fun H v xs => ∃ a vs, v = .ref a ∧ H a = some (.tup vs) ∧ Paired (A H) vs xs
def rLL {α : Type} (A : Rel α) : Rel (List α) := fun H v xs => ∃ a vs, v = .ref a ∧ H a = some (.lst vs) ∧ Paired (A H) vs xs
instance : Mon rI := ⟨fun _ h => h⟩
instance : Mon rS := ⟨fun _ h => h⟩
instance : Mon rB := ⟨fun _ h => h⟩
instance {α β : Type} {A : Rel α} {B : Rel β} [Mon A] [Mon B] : Mon (rP A B) := ⟨fun t ⟨a, p, q, e, h, ha, hb⟩ => ⟨a, p, q, e, t _ _ h, Mon.go t ha, Mon.go t hb⟩⟩
instance {α β γ : Type} {A : Rel α} {B : Rel β} {C : Rel γ} [Mon A] [Mon B] [Mon C] : Mon (rT3 A B C) := ⟨fun t ⟨a, p, q, r, e, h, ha, hb, hc⟩ => ⟨a, p, q, r, e, t _ _ h, Mon.go t ha, Mon.go t hb, Mon.go t hc⟩⟩
instance {α β γ δ ε : Type} {A : Rel α} {B : Rel β} {C : Rel γ} {D : Rel δ} {E : Rel ε} [Mon A] [Mon B] [Mon C] [Mon D] [Mon E] : Mon (rT5 A B C D E) :=
  ⟨fun t ⟨a, p, q, r, s, u, e, h, ha, hb, hc, hd, he⟩ => ⟨a, p, q, r, s, u, e, t _ _ h, Mon.go t ha, Mon.go t hb, Mon.go t hc, Mon.go t hd, Mon.go t he⟩⟩
instance {α : Type} {A : Rel α} [Mon A] : Mon (rTL A) := ⟨fun t ⟨a, vs, e, h, hp⟩ => ⟨a, vs, e, t _ _ h, mnL t hp⟩⟩
abbrev Hold := Str × Int × Int
abbrev House := Str × Int × List Hold
abbrev Parish := Str × List House
abbrev County := List Parish
abbrev Row := Int × Int × Str × Int × Int
abbrev rHold : Rel Hold := rT3 rS rI rI
abbrev rHouse : Rel House := rT3 rS rI (rTL rHold)
abbrev rParish : Rel Parish := rP rS (rTL rHouse)
abbrev rCounty : Rel County := rTL rParish
abbrev rRow : Rel Row := rT5 rI rI rS rI rI

/-! ### paired lists -/
section
variable {α β γ : Type} {R : α → β → Prop}
theorem pr_get : ∀ {xs : List α} {ys : List β} {i : Nat} {x : α}, Paired R xs ys → xs[i]? = some x → ∃ y, ys[i]? = some y ∧ R x y
  | _, _, _, _, .nil, e => by simp at e
  | _, _, 0, _, .cons r _, e => by simp at e; subst e; exact ⟨_, rfl, r⟩
  | _, _, i + 1, x, .cons _ t, e => by
    obtain ⟨u, h1, h2⟩ := pr_get (i := i) (x := x) t (by simpa using e)
    exact ⟨u, by simpa using h1, h2⟩
theorem pr_get' : ∀ {xs : List α} {ys : List β} {i : Nat} {y : β}, Paired R xs ys → ys[i]? = some y → ∃ x, xs[i]? = some x ∧ R x y
  | _, _, _, _, .nil, e => by simp at e
  | _, _, 0, _, .cons r _, e => by simp at e; subst e; exact ⟨_, rfl, r⟩
  | _, _, i + 1, x, .cons _ t, e => by
    obtain ⟨u, h1, h2⟩ := pr_get' (i := i) (y := x) t (by simpa using e)
    exact ⟨u, by simpa using h1, h2⟩
theorem pr_len {xs : List α} {ys : List β} (h : Paired R xs ys) : xs.length = ys.length := Paired.length h
theorem pr_app : ∀ {xs xs' : List α} {ys ys' : List β}, Paired R xs ys → Paired R xs' ys' → Paired R (xs ++ xs') (ys ++ ys')
  | _, _, _, _, .nil, h => h
  | _, _, _, _, .cons r t, h => .cons r (pr_app t h)
theorem pr_snoc {xs : List α} {ys : List β} {x : α} {y : β} (h : Paired R xs ys) (r : R x y) : Paired R (xs ++ [x]) (ys ++ [y]) := pr_app h (.cons r .nil)
theorem pr_imp {S : α → β → Prop} : ∀ {xs : List α} {ys : List β}, Paired R xs ys → (∀ x y, R x y → S x y) → Paired S xs ys
  | _, _, .nil, _ => .nil
  | _, _, .cons r t, f => .cons (f _ _ r) (pr_imp t f)
end
theorem pr_int {H : Hp} : ∀ {vs : List V} {ns : List Int}, Paired (rI H) vs ns → vs = ns.map V.int
  | _, _, .nil => rfl
  | _, _, .cons r t => by rw [show _ = V.int _ from r, pr_int t] <;> rfl
theorem int_pr {H : Hp} : ∀ ns : List Int, Paired (rI H) (ns.map V.int) ns
  | [] => .nil
  | _ :: r => .cons rfl (int_pr r)
theorem pr_str {H : Hp} : ∀ {vs : List V} {ns : List Str}, Paired (rS H) vs ns → vs = ns.map V.str
  | _, _, .nil => rfl
  | _, _, .cons r t => by rw [show _ = V.str _ from r, pr_str t] <;> rfl
theorem str_pr {H : Hp} : ∀ ns : List Str, Paired (rS H) (ns.map V.str) ns
  | [] => .nil
  | _ :: r => .cons rfl (str_pr r)
theorem take_more {α : Type} : ∀ {l : List α} {i : Nat} {x : α}, l[i]? = some x → l.take (i + 1) = l.take i ++ [x]
  | [], i, x, h => by simp at h
  | a :: l, 0, x, h => by
    have e : a = x := Option.some.inj h
    subst e
    rfl
  | a :: l, i + 1, x, h => by
    have ih := take_more (l := l) (i := i) (x := x) h
    show a :: l.take (i + 1) = a :: l.take i ++ [x]
    rw [ih]
    rfl
theorem lt_of_get {α : Type} {l : List α} {i : Nat} {x : α} (h : l[i]? = some x) : i < l.length := (List.getElem?_eq_some_iff.mp h).1

/-! ### rules with what stays told -/
theorem line_of {n : Nat} (h : n ≤ 1000000) : n ≤ sizeLine := Nat.le_trans h (by decide)
theorem line_lt {n : Nat} (h : n ≤ 1000000) : n < sizeLine := Nat.lt_of_le_of_lt h (by decide)
section
variable {X : Cx} {k : Nat} {es : List Expr} {t : TA} {pos : Pos}
theorem _root_.L2.OpR.weak {f : Value → Value → Sem Value} {r r' : R2} (h : OpR X f r) (w : ∀ x y H Q, r' x y H Q → r x y H Q) : OpR X f r' := fun pins s σ H x y u v Q I rx ry q => h pins s σ H x y u v Q I rx ry (w _ _ _ _ q)
theorem _root_.L2.PE.weak {e : Expr} {t t' : TE} (h : PE X e t) (w : ∀ σ H Q, t' σ H Q → t σ H Q) : PE X e t' := ⟨fun pins s σ H Q I q => h.run pins s σ H Q I (w _ _ _ q)⟩
theorem _root_.L2.CallR.weak {f : Value} {r r' : List V → Hp → VK → Prop} (h : CallR X f r) (w : ∀ xs H Q, r' xs H Q → r xs H Q) : CallR X f r' := fun pins s σ H xs us Q I rx q => h pins s σ H xs us Q I rx (w _ _ _ q)
theorem _root_.L2.SlR.weak {r r' : V → Option Int → Option Int → Hp → VK → Prop} (h : SlR X r) (w : ∀ x lo hi H Q, r' x lo hi H Q → r x lo hi H Q) : SlR X r' := fun pins s σ H x v vl vu lo hi sl Q I rx hs pl pu q => h pins s σ H x v vl vu lo hi sl Q I rx hs pl pu (w _ _ _ _ _ q)
def tTupS (t : TA) : TE := fun σ H Q => t σ H fun xs H1 => xs.length ≤ 1000000 ∧ New H1 (.tup xs) Q
def tLstS (t : TA) : TE := fun σ H Q => t σ H fun xs H1 => xs.length ≤ 1000000 ∧ New H1 (.lst xs) Q
/-- a list of arguments' reading keeps what follows: t is monotone -/
structure PAm (X : Cx) (es : List Expr) (t : TA) : Prop where
  pa : PA X es t
  mo : ∀ σ H (Q Q' : List V → Hp → Prop), (∀ vs H', Q vs H' → Q' vs H') → t σ H Q → t σ H Q'
end
end K5
set_option maxHeartbeats 4000000
namespace K5
open PySem PySem.Spec PyProof.Rows L2
section
variable {X : Cx} {k : Nat} {es : List Expr} {t : TA} {pos : Pos}
def clA (t : TA) : TA := fun σ H Q => ∃ R : List V → Hp → Prop, t σ H R ∧ ∀ xs H', R xs H' → Q xs H'
theorem _root_.L2.PA.cl (h : PA X es t) : PA X es (clA t) := ⟨fun pos pins s σ H Q I ⟨R, hr, hq⟩ => thn (h.run pos pins s σ H R I hr) fun us s1 ⟨vs, H1, I1, r1, q⟩ => ⟨vs, H1, I1, r1, hq _ _ q⟩⟩
theorem pe_tupS {x1} (h : PA X es t) : PE X (.Tuple es x1 pos) (tTupS t) :=
  (pe_tup (PA.cl h)).weak fun _ _ _ q => ⟨_, q, fun _ _ ⟨a, b⟩ => ⟨line_of a, b.at⟩⟩
theorem pe_lstS (h : PA X es t) : PE X (.List es pos) (tLstS t) :=
  (pe_lst (PA.cl h)).weak fun _ _ _ q => ⟨_, q, fun _ _ ⟨a, b⟩ => ⟨line_of a, b.at⟩⟩
/-- xs + ys, lists -/
def rCatS : R2 := fun x y H Q => ∃ l b xs zs, x = .ref l ∧ y = .ref b ∧ H l = some (.lst xs) ∧ H b = some (.lst zs) ∧ xs.length + zs.length ≤ 1000000 ∧ New H (.lst (xs ++ zs)) Q
theorem op_catS : OpR X (binaryOp .Add) rCatS := OpR.weak op_cat fun _ _ _ _ ⟨l, b, xs, zs, e1, e2, h1, h2, h3, q⟩ => ⟨l, b, xs, zs, e1, e2, h1, h2, line_of h3, q.at⟩
/-- t + u, tuples -/
def rCatTS : R2 := fun x y H Q => ∃ a b xs ys, x = .ref a ∧ y = .ref b ∧ H a = some (.tup xs) ∧ H b = some (.tup ys) ∧ xs.length + ys.length ≤ 1000000 ∧ ∀ p H', Same H H' → H' p = some (.tup (xs ++ ys)) → Q (.ref p) H'
theorem op_catTS : OpR X (binaryOp .Add) rCatTS := OpR.weak op_catA fun _ _ H Q ⟨a, b, xs, ys, e1, e2, h1, h2, h3, q⟩ =>
  ⟨a, b, xs, ys, e1, e2, SqT.of h1, SqT.of h2, line_of h3, fun e => q b H (Same.refl H) (by rw [e]; exact h2), fun _ e => q a H (Same.refl H) (by rw [e, List.append_nil]; exact h1), fun _ _ p hp => q p _ (Same.new hp) upd_same⟩
/-- t[lo:hi], a tuple -/
def rSlTS : V → Option Int → Option Int → Hp → VK → Prop := fun x lo hi H Q => ∃ a xs, x = .ref a ∧ H a = some (.tup xs) ∧ ∀ p H', Same H H' → H' p = some (.tup (cutV xs lo hi)) → Q (.ref p) H'
theorem cutV_all {xs : List V} {lo hi : Option Int} (h : HT.sIx xs.length 0 lo = 0 ∧ HT.sIx xs.length xs.length hi = xs.length) : cutV xs lo hi = xs := by
  unfold cutV
  rw [h.1, h.2]
  simp
theorem sl_tupS : SlR X rSlTS := SlR.weak sl_tupA fun _ _ _ H _ ⟨a, xs, e, h, q⟩ => ⟨a, xs, e, SqT.of h, fun w => q a H (Same.refl H) (by rw [cutV_all w]; exact h), fun _ p hp => q p _ (Same.new hp) upd_same⟩
/-- xs[lo:hi], a list -/
def rSlLS : V → Option Int → Option Int → Hp → VK → Prop := fun x lo hi H Q => ∃ a xs, x = .ref a ∧ H a = some (.lst xs) ∧ New H (.lst (cutV xs lo hi)) Q
theorem sl_listS : SlR X rSlLS := SlR.weak sl_list fun _ _ _ _ _ ⟨a, xs, e, h, q⟩ => ⟨a, xs, e, SqL.of h, q.at⟩
/-- [..] * n -/
def rRepS : R2 := fun x y H Q => ∃ l, ∃ k : Int, ∃ z : V, x = .ref l ∧ y = .int k ∧ H l = some (.lst [z]) ∧ 0 ≤ k ∧ k ≤ 1000000 ∧ New H (.lst (List.replicate k.toNat z)) Q
theorem flat_rep {α : Type} (z : α) : ∀ n : Nat, (List.replicate n [z]).flatten = List.replicate n z
  | 0 => rfl
  | n + 1 => by
    rw [List.replicate_succ, List.flatten_cons, flat_rep z n, List.replicate_succ] <;> rfl
theorem op_repS : OpR X (binaryOp .Mult) rRepS := OpR.weak op_rep fun _ _ _ _ ⟨l, k, z, e1, e2, h, k0, k1, q⟩ => ⟨l, k, [z], e1, e2, h, by omega, by omega, line_of (by simp; omega), fun p hp => by rw [flat_rep]; exact q.at p hp⟩
/-- list(xs), xs a list or a tuple -/
def rListS : List V → Hp → VK → Prop := fun xs H Q => ∃ p ys, xs = [.ref p] ∧ (H p = some (.lst ys) ∨ H p = some (.tup ys)) ∧ New H (.lst ys) Q
theorem call_listS : CallR X (.type "list") rListS := CallR.weak call_list_of fun _ _ _ ⟨p, ys, e, h, q⟩ => ⟨p, ys, e, h.imp SqL.of SqT.of, q.at⟩
/-- tuple(xs), xs a list -/
def rTupleS : List V → Hp → VK → Prop := fun xs H Q => ∃ p ys, xs = [.ref p] ∧ H p = some (.lst ys) ∧ New H (.tup ys) Q
theorem call_tupleS : CallR X (.type "tuple") rTupleS := CallR.weak call_tuple_of fun _ _ _ ⟨p, ys, e, h, q⟩ => ⟨p, ys, e, .inl ⟨SqL.of h, q.at⟩⟩
/-- len of a list, a tuple -/
def rLenS : List V → Hp → VK → Prop := fun xs H Q => ∃ p ys, xs = [.ref p] ∧ (H p = some (.lst ys) ∨ H p = some (.tup ys)) ∧ Q (.int ys.length) H
theorem call_lenS : CallR X (.builtin "len") rLenS := CallR.weak call_len_seq fun _ _ _ ⟨p, ys, e, h, q⟩ => ⟨p, ys, e, h.imp SqL.of SqT.of, q⟩
/-- sum of ints -/
def rSumS : List V → Hp → VK → Prop := fun vs H Q => ∃ a zs, ∃ ns : List Int, vs = [.ref a] ∧ H a = some (.lst zs) ∧ Paired (rI H) zs ns ∧ Q (.int ns.sum) H
theorem cr_sumS (hc : X.calm = true) : CallR X (.builtin "sum") rSumS := CallR.weak (cr_sum hc) fun _ _ _ ⟨a, zs, ns, e, h, p, q⟩ => ⟨a, ns, e, SqL.of (by rw [h, pr_int p]), q⟩
/-- xs[i], t[i] -/
def rIxLS : R2 := fun x y H Q => ∃ p xs, ∃ i : Int, ∃ v, x = .ref p ∧ y = .int i ∧ H p = some (.lst xs) ∧ atI xs i = some v ∧ Q v H
def rIxTS : R2 := fun x y H Q => ∃ p xs, ∃ i : Int, ∃ v, x = .ref p ∧ y = .int i ∧ H p = some (.tup xs) ∧ atI xs i = some v ∧ Q v H
theorem _root_.L2.IxR.weak {r r' : R2} (h : IxR X r) (w : ∀ x y H Q, r' x y H Q → r x y H Q) : IxR X r' := fun value slice pins s σ H x y v u Q I rx ry q z => h value slice pins s σ H x y v u Q I rx ry (w _ _ _ _ q) z
theorem ix_listS : IxR X rIxLS := IxR.weak ix_list fun _ _ _ _ ⟨p, xs, i, v, e1, e2, h, a, q⟩ => ⟨p, xs, i, v, e1, e2, SqL.of h, a, q⟩
theorem ix_tupS : IxR X rIxTS := IxR.weak ix_tup fun _ _ _ _ ⟨p, xs, i, v, e1, e2, h, a, q⟩ => ⟨p, xs, i, v, e1, e2, SqT.of h, a, q⟩
end
/-! ### closures of readings -/
section
variable {X : Cx}
def clE (t : TE) : TE := fun σ H Q => ∃ R : V → Hp → Prop, t σ H R ∧ ∀ v H', R v H' → Q v H'
def clG (t : TG) : TG := fun x σ H Q => ∃ R : L2.St → Hp → Prop, t x σ H R ∧ ∀ s H', R s H' → Q s H'
def clT (t : TT) : TT := fun σ H Q => ∃ R : Bool → Hp → Prop, t σ H R ∧ ∀ b H', R b H' → Q b H'
theorem _root_.L2.PE.cl {e : Expr} {t : TE} (h : PE X e t) : PE X e (clE t) := ⟨fun pins s σ H Q I ⟨R, hr, hq⟩ => thn (h.run pins s σ H R I hr) fun u s1 ⟨v, H1, I1, r1, q⟩ => ⟨v, H1, I1, r1, hq _ _ q⟩⟩
theorem _root_.L2.PG.cl {e : Expr} {t : TG} (h : PG X e t) : PG X e (clG t) := ⟨fun pins s σ H v u Q I r ⟨R, hr, hq⟩ => thn (h.run pins s σ H v u R I r hr) fun u s1 ⟨σ1, H1, I1, q⟩ => ⟨σ1, H1, I1, hq _ _ q⟩⟩
theorem _root_.L2.PTs.cl {es : List Expr} {t : TT} (h : PTs X es t) : PTs X es (clT t) := ⟨fun pins s σ H Q I ⟨R, hr, hq⟩ => thn (h.run pins s σ H R I hr) fun b s1 ⟨H1, I1, q⟩ => ⟨H1, I1, hq _ _ q⟩⟩
end
/-! ### what is walked, typed -/
/-- J yields the data ds, as A tells them, while Ok holds -/
structure Src {α : Type} (J : It) (Ok : Hp → Prop) (A : Rel α) (ds : List α) : Prop where
  stop : ∀ H, Ok H → J.stop ds.length H
  go : ∀ i H, i < ds.length → Ok H → J.go i H
  yld : ∀ i H x H' d, ds[i]? = some d → Ok H → J.yld i H x H' → Same H H' ∧ A H' x d
section
variable {K : PySem.W.Frag} {α β : Type} {A : Rel α} {B : Rel β}
def OkL (A : Rel α) (a : Addr) (ds : List α) : Hp → Prop := fun H => ∃ vs, H a = some (.lst vs) ∧ Paired (A H) vs ds
def OkT (A : Rel α) (a : Addr) (ds : List α) : Hp → Prop := fun H => ∃ vs, H a = some (.tup vs) ∧ Paired (A H) vs ds
theorem sql_inj {H : Hp} {a : Addr} {vs xs : List V} (h : H a = some (.lst vs)) (hk : K.lookup a = none) (q : SqL K H a xs) : xs = vs := by
  rcases q with (q | ⟨o, q⟩) | ⟨o, _, _, q, _⟩
  · rw [h] at q
    cases q
    rfl
  · rw [h] at q
    cases q
  · rw [hk] at q
    cases q
theorem src_list {a : Addr} {ds : List α} : Src (Itl K a) (OkL A a ds) A ds where
  stop := fun H ⟨vs, h, p⟩ => ⟨vs, SqL.of h, by rw [pr_len p]; exact Nat.le_refl _⟩
  go := fun i H hi ⟨vs, h, p⟩ => ⟨vs, vs[i]'(by rw [pr_len p]; exact hi), SqL.of h, by simp⟩
  yld := fun i H x H' d hd ⟨vs, h, p⟩ ⟨e, y⟩ => by
    subst e
    obtain ⟨v, hv, r⟩ := pr_get' p hd
    rw [y vs (SqL.of h)] at hv
    cases hv
    exact ⟨Same.refl _, r⟩
theorem src_tup {a : Addr} {ds : List α} : Src (Itt K a) (OkT A a ds) A ds where
  stop := fun H ⟨vs, h, p⟩ => ⟨vs, SqT.of h, by rw [pr_len p]; exact Nat.le_refl _⟩
  go := fun i H hi ⟨vs, h, p⟩ => ⟨vs, vs[i]'(by rw [pr_len p]; exact hi), SqT.of h, by simp⟩
  yld := fun i H x H' d hd ⟨vs, h, p⟩ ⟨e, y⟩ => by
    subst e
    obtain ⟨v, hv, r⟩ := pr_get' p hd
    rw [y vs (SqT.of h)] at hv
    cases hv
    exact ⟨Same.refl _, r⟩
theorem src_range {lo : Int} {n : Nat} : Src (Itr lo n) (fun _ => True) rI ((List.range n).map fun i : Nat => lo + (i : Int)) where
  stop := fun H _ => by simp [Itr]
  go := fun i H hi _ => by simpa [Itr] using hi
  yld := fun i H x H' d hd _ ⟨e, y⟩ => by
    subst e
    rw [List.getElem?_map] at hd
    have hi : i < n := by
      have z := hd
      cases q : (List.range n)[i]? with
      | none => rw [q] at z; cases z
      | some j => simpa using lt_of_get q
    rw [List.getElem?_range hi] at hd
    cases hd
    exact ⟨Same.refl _, y⟩
def sg (c : Nat) : Str := ⟨#[c]⟩
theorem src_str {x : Str} : Src (Its x) (fun _ => True) rS (x.cps.toList.map sg) where
  stop := fun H _ => by simp [Its]
  go := fun i H hi _ => by simpa [Its] using hi
  yld := fun i H y H' d hd _ ⟨e, c, hc, ey⟩ => by
    subst e ey
    rw [List.getElem?_map, Array.getElem?_toList, hc] at hd
    cases hd
    exact ⟨Same.refl _, rfl⟩
theorem okL_mono [Mon A] {a : Addr} {ds : List α} {H H' : Hp} (s : Same H H') : OkL A a ds H → OkL A a ds H' := fun ⟨vs, h, p⟩ => ⟨vs, s _ _ h, mnL s.tk p⟩
theorem okT_mono [Mon A] {a : Addr} {ds : List α} {H H' : Hp} (s : Tk H H') : OkT A a ds H → OkT A a ds H' := fun ⟨vs, h, p⟩ => ⟨vs, s _ _ h, mnL s p⟩
end
/-! ### loops, typed -/
/-- the loop's invariant by the turn -/
theorem forS {α : Type} {J : It} {Ok : Hp → Prop} {A : Rel α} {ds : List α} (S : Src J Ok A ds) {g : TG} {tb : TS} {D : Ends} {σ : L2.St} {H : Hp} (Pv : Nat → L2.St → Hp → Prop) (h0 : Pv 0 σ H) (hok : ∀ i σ H, i ≤ ds.length → Pv i σ H → Ok H)
    (hs : ∀ (i : Nat) (d : α) (x : V) (σ : L2.St) (H H' : Hp), ds[i]? = some d → Pv i σ H → Same H H' → A H' x d → g x σ H' fun σ2 H2 => tb { D with nx := Pv (i + 1), ct := Pv (i + 1), bk := D.nx } σ2 H2) (hd : ∀ σ H, Pv ds.length σ H → D.nx σ H) :
    ∃ W : Nat → Nat → L2.St → Hp → Prop, (∃ m, W 0 m σ H) ∧ ∀ i m σ H, W i m σ H →
      (J.stop i H ∧ D.nx σ H) ∨ (J.go i H ∧ ∃ N : L2.St → Hp → Prop, (∀ σ' H', N σ' H' → ∃ m', m' < m ∧ W (i + 1) m' σ' H') ∧ ∀ x H', J.yld i H x H' → g x σ H' fun σ2 H2 => tb { D with nx := N, ct := N, bk := D.nx } σ2 H2) := by
  refine ⟨fun i m σ H => m = ds.length - i ∧ i ≤ ds.length ∧ Pv i σ H, ⟨ds.length, by simp, Nat.zero_le _, h0⟩, ?_⟩
  rintro i m σ H ⟨rfl, hi, p⟩
  have q := hok i σ H hi p
  by_cases hlt : i < ds.length
  · refine .inr ⟨S.go i H hlt q, Pv (i + 1), fun σ' H' p' => ⟨ds.length - (i + 1), by omega, rfl, hlt, p'⟩, fun x H' y => ?_⟩
    obtain ⟨d, hd⟩ : ∃ d, ds[i]? = some d := ⟨_, List.getElem?_eq_getElem hlt⟩
    obtain ⟨s, r⟩ := S.yld i H x H' d hd q y
    exact hs i d x σ H H' hd p s r
  · have e : i = ds.length := by omega
    subst e
    exact .inl ⟨S.stop H q, hd σ H p⟩
/-! ### comprehensions, typed -/
/-- [te for g in ds if tt]: the items made are as B tells them of f d, for the ds that p keeps -/
theorem lcS {α β : Type} {J : It} {Ok : Hp → Prop} {A : Rel α} {B : Rel β} {ds : List α} (S : Src J Ok A ds) [Mon B] (p : α → Bool) (f : α → β) {g : TG} {tt : TT} {te : TE} {vs : List Nat} {σ : L2.St} {H1 : Hp} {D : Addr} {Qd : Hp → Prop}
    (hD : H1 D = none) (hn : ds.length ≤ 1000000) (hok : ∀ H, Same H1 H → Ok H)
    (turn : ∀ (i : Nat) (d : α) (x : V) (H : Hp), ds[i]? = some d → Same H1 H → A H x d → g x (wipe σ vs) H fun σ2 H2 => wipe σ2 vs = wipe σ vs ∧ tt σ2 H2 fun b H3 => if b = true then te σ2 H3 fun y H4 => Same H H4 ∧ p d = true ∧ B H4 y (f d) else Same H H3 ∧ p d = false)
    (done : ∀ acc H, Same H1 H → H D = some (.lst acc) → Paired (B H) acc ((ds.filter p).map f) → Qd H) :
    ∃ W : Nat → Nat → Hp → Prop, (∃ m, W 0 m (upd H1 D (.lst []))) ∧ ∀ i m H, W i m H →
      (J.stop i H ∧ Qd H) ∨ (J.go i H ∧ ∃ Nx : Hp → Prop, (∀ H', Nx H' → ∃ m', m' < m ∧ W (i + 1) m' H') ∧ ∀ x H', J.yld i H x H' → (clG g) x (wipe σ vs) H' fun σ2 H2 => wipe σ2 vs = wipe σ vs ∧ (clT tt) σ2 H2 fun b H3 =>
        if b = true then (clE te) σ2 H3 fun y H4 => ∃ acc, H4 D = some (.lst acc) ∧ acc.length < sizeLine ∧ Nx (upd H4 D (.lst (acc ++ [y]))) else Nx H3) := by
  refine ⟨fun i m H => m = ds.length - i ∧ i ≤ ds.length ∧ ∃ acc, Same H1 H ∧ H D = some (.lst acc) ∧ acc.length ≤ i ∧ Paired (B H) acc (((ds.take i).filter p).map f), ⟨ds.length, by simp, Nat.zero_le _, [], Same.new hD, upd_same, Nat.le_refl _, .nil⟩, ?_⟩
  rintro i m H ⟨rfl, hi, acc, s, hd, hl, pp⟩
  by_cases hlt : i < ds.length
  · obtain ⟨d, hdd⟩ : ∃ d, ds[i]? = some d := ⟨_, List.getElem?_eq_getElem hlt⟩
    refine .inr ⟨S.go i H hlt (hok H s), fun H' => ∃ acc, Same H1 H' ∧ H' D = some (.lst acc) ∧ acc.length ≤ i + 1 ∧ Paired (B H') acc (((ds.take (i + 1)).filter p).map f), fun H' p' => ⟨ds.length - (i + 1), by omega, rfl, hlt, p'⟩, fun x H' y => ?_⟩
    obtain ⟨s1, r⟩ := S.yld i H x H' d hdd (hok H s) y
    have s2 := s.trans s1
    refine ⟨_, turn i d x H' hdd s2 r, fun σ2 H2 q => ⟨q.1, _, q.2, fun b H3 q3 => ?_⟩⟩
    cases b with
    | true =>
      refine iteT ⟨_, (show te σ2 H3 _ from q3), fun y H4 q4 => ?_⟩
      obtain ⟨s4, hp, hb⟩ := q4
      have h4 := s4 _ _ (s1 _ _ hd)
      have tk : Tk H4 (upd H4 D (.lst (acc ++ [y]))) := Tk.upd h4 fun _ z => by cases z
      refine ⟨acc, h4, line_lt (by omega), acc ++ [y], (s2.trans s4).mut hD, upd_same, by simp; omega, ?_⟩
      rw [take_more hdd, List.filter_append, List.map_append, List.filter_cons_of_pos hp]
      exact pr_snoc (mnL ((s1.trans s4).tk.trans tk) pp) (Mon.go tk hb)
    | false =>
      have q3 : Same H' H3 ∧ p d = false := q3
      refine iteF ⟨acc, s2.trans q3.1, q3.1 _ _ (s1 _ _ hd), by omega, ?_⟩
      rw [take_more hdd, List.filter_append, List.map_append, List.filter_cons_of_neg (by rw [q3.2]; decide)]
      simpa using mnL (s1.trans q3.1).tk pp
  · have e : i = ds.length := by omega
    subst e
    rw [List.take_of_length_le (Nat.le_refl _)] at pp
    exact .inl ⟨S.stop H (hok H s), done acc H s hd pp⟩
/-- the same, all kept -/
theorem lcM {α β : Type} {J : It} {Ok : Hp → Prop} {A : Rel α} {B : Rel β} {ds : List α} (S : Src J Ok A ds) [Mon B] (f : α → β) {g : TG} {te : TE} {vs : List Nat} {σ : L2.St} {H1 : Hp} {D : Addr} {Qd : Hp → Prop}
    (hD : H1 D = none) (hn : ds.length ≤ 1000000) (hok : ∀ H, Same H1 H → Ok H)
    (turn : ∀ (i : Nat) (d : α) (x : V) (H : Hp), ds[i]? = some d → Same H1 H → A H x d → g x (wipe σ vs) H fun σ2 H2 => wipe σ2 vs = wipe σ vs ∧ te σ2 H2 fun y H4 => Same H H4 ∧ B H4 y (f d))
    (done : ∀ acc H, Same H1 H → H D = some (.lst acc) → Paired (B H) acc (ds.map f) → Qd H) :
    ∃ W : Nat → Nat → Hp → Prop, (∃ m, W 0 m (upd H1 D (.lst []))) ∧ ∀ i m H, W i m H →
      (J.stop i H ∧ Qd H) ∨ (J.go i H ∧ ∃ Nx : Hp → Prop, (∀ H', Nx H' → ∃ m', m' < m ∧ W (i + 1) m' H') ∧ ∀ x H', J.yld i H x H' → (clG g) x (wipe σ vs) H' fun σ2 H2 => wipe σ2 vs = wipe σ vs ∧ (clT tYes) σ2 H2 fun b H3 =>
        if b = true then (clE te) σ2 H3 fun y H4 => ∃ acc, H4 D = some (.lst acc) ∧ acc.length < sizeLine ∧ Nx (upd H4 D (.lst (acc ++ [y]))) else Nx H3) := by
  refine ⟨fun i m H => m = ds.length - i ∧ i ≤ ds.length ∧ ∃ acc, Same H1 H ∧ H D = some (.lst acc) ∧ acc.length ≤ i ∧ Paired (B H) acc ((ds.take i).map f), ⟨ds.length, by simp, Nat.zero_le _, [], Same.new hD, upd_same, Nat.le_refl _, .nil⟩, ?_⟩
  rintro i m H ⟨rfl, hi, acc, s, hd, hl, pp⟩
  by_cases hlt : i < ds.length
  · obtain ⟨d, hdd⟩ : ∃ d, ds[i]? = some d := ⟨_, List.getElem?_eq_getElem hlt⟩
    refine .inr ⟨S.go i H hlt (hok H s), fun H' => ∃ acc, Same H1 H' ∧ H' D = some (.lst acc) ∧ acc.length ≤ i + 1 ∧ Paired (B H') acc ((ds.take (i + 1)).map f), fun H' p' => ⟨ds.length - (i + 1), by omega, rfl, hlt, p'⟩, fun x H' y => ?_⟩
    obtain ⟨s1, r⟩ := S.yld i H x H' d hdd (hok H s) y
    have s2 := s.trans s1
    refine ⟨_, turn i d x H' hdd s2 r, fun σ2 H2 q => ⟨q.1, fun b H3 => b = true ∧ H3 = H2, ⟨rfl, rfl⟩, fun b H3 q3 => ?_⟩⟩
    obtain ⟨rfl, rfl⟩ := q3
    refine iteT ⟨_, q.2, fun y H4 q4 => ?_⟩
    obtain ⟨s4, hb⟩ := q4
    have h4 := s4 _ _ (s1 _ _ hd)
    have tk : Tk H4 (upd H4 D (.lst (acc ++ [y]))) := Tk.upd h4 fun _ z => by cases z
    refine ⟨acc, h4, line_lt (by omega), acc ++ [y], (s2.trans s4).mut hD, upd_same, by simp; omega, ?_⟩
    rw [take_more hdd, List.map_append]
    exact pr_snoc (mnL ((s1.trans s4).tk.trans tk) pp) (Mon.go tk hb)
  · have e : i = ds.length := by omega
    subst e
    rw [List.take_of_length_le (Nat.le_refl _)] at pp
    exact .inl ⟨S.stop H (hok H s), done acc H s hd pp⟩
end K5
set_option maxHeartbeats 4000000
namespace K5
open PySem PySem.Spec PyProof.Rows L2
/-! ### zip of two: each a list, a tuple or a text -/
inductive ZK where
  | l | t | s
def kSt : ZK → Value → Addr → Nat → Heap → Prop
  | .l, u, it, i, h => ∃ a, u = .ref a ∧ h.IsListIter it a i
  | .t, u, it, i, h => ∃ a, u = .ref a ∧ h.IsTupleIter it a i
  | .s, u, it, i, h => ∃ x t, u = .str x t ∧ h.IsStrIter it (strIterType x) x t i
def kIt (K : PySem.W.Frag) : ZK → Hp → V → List V → Prop
  | .l, H, v, xs => ∃ a, v = .ref a ∧ SqL K H a xs
  | .t, H, v, xs => ∃ a, v = .ref a ∧ SqT K H a xs
  | .s, _, v, xs => ∃ x, v = .str x ∧ xs = x.cps.toList.map fun c => .str ⟨#[c]⟩
def kObj : ZK → Value → Obj
  | .l, .ref a => { cls := .type "list_iterator", data := .fields #[.ref a, .int 0 0] }
  | .t, .ref a => { cls := .type "tuple_iterator", data := .fields #[.ref a, .int 0 0] }
  | .s, .str x t => { cls := .type (strIterType x), data := .fields #[.str x t, .int 0 0] }
  | _, _ => default
structure KD (prog : Program) (w : World) (A : Around) (k : ZK) (u : Value) (it : Addr) (i : Nat) (h : Heap) (xs : List V) (fp : List Addr) (n : Nat) (P : Nat → Value → Prop) (St : Nat → Heap → Prop) : Prop where
  draws : Draws prog w A it fp n P St
  st : St i h
  len : n = xs.length
  item : ∀ (j : Nat) y, P j y → ∃ x, xs[j]? = some x ∧ RelV x y
  mem : it ∈ fp
  only : ∀ c ∈ fp, c = it ∨ u = .ref c
  back : ∀ j h', St j h' → kSt k u it j h'
section
variable {X : Cx} {pins : List (Addr × Obj)} {σ : L2.St} {H : Hp} {s : Shared}
theorem strIter_cases (x : Str) : strIterType x = "str_ascii_iterator" ∨ strIterType x = "str_iterator" := by
  unfold strIterType
  split
  · exact .inl rfl
  · exact .inr rfl
theorem kDraws {A : Around} (hh : A.handled = none) (I : Inv X pins σ H s) {k : ZK} {v : V} {u : Value} {xs : List V} {it : Addr} {i : Nat} (r : RelV v u) (q : kIt X.K k H v xs) (st : kSt k u it i s.heap) (hne : u ≠ .ref it) :
    ∃ fp n P St, KD X.prog X.w A k u it i s.heap xs fp n P St := by
  cases k with
  | l =>
    obtain ⟨a, rfl, q⟩ := q
    obtain ⟨b, rfl, st⟩ := st
    obtain rfl : b = a := by
      have z : Value.ref b = Value.ref a := r
      injection z
    obtain ⟨its, rv, p, _⟩ := I.list q
    refine ⟨_, _, _, _, Draws.list hh it b (fun z => hne (by rw [z])) its.toArray, ⟨st, p.isList⟩, by rw [List.size_toArray]; exact (rv.length).symm, fun j y hy => ?_, by simp, fun c hc => ?_, fun j h' z => ⟨b, rfl, z.1⟩⟩
    · have hy : its[j]? = some y := by simpa using hy
      exact pr_get' rv hy
    · have hc' : c = it ∨ c = b := by simpa using hc
      exact hc'.imp id fun z => by rw [z]
  | t =>
    obtain ⟨a, rfl, q⟩ := q
    obtain ⟨b, rfl, st⟩ := st
    obtain rfl : b = a := by
      have z : Value.ref b = Value.ref a := r
      injection z
    obtain ⟨its, rv, p, _⟩ := I.tuple q
    refine ⟨_, _, _, _, Draws.tuple hh it b (fun z => hne (by rw [z])) its.toArray, ⟨st, p⟩, by rw [List.size_toArray]; exact (rv.length).symm, fun j y hy => ?_, by simp, fun c hc => ?_, fun j h' z => ⟨b, rfl, z.1⟩⟩
    · have hy : its[j]? = some y := by simpa using hy
      exact pr_get' rv hy
    · have hc' : c = it ∨ c = b := by simpa using hc
      exact hc'.imp id fun z => by rw [z]
  | s =>
    obtain ⟨x, rfl, rfl⟩ := q
    obtain ⟨y, t, rfl, st⟩ := st
    obtain rfl : y = x := by
      obtain ⟨t', z⟩ := (show ∃ t', Value.str y t = Value.str x t' from r)
      injection z
    have item : ∀ (j : Nat) (z : Value), (∃ c u, y.cps[j]? = some c ∧ z = .str ⟨#[c]⟩ u) → ∃ x, (y.cps.toList.map fun c => V.str ⟨#[c]⟩)[j]? = some x ∧ RelV x z := fun j z hz => by
      obtain ⟨c, u, hc, e⟩ := hz
      exact ⟨.str ⟨#[c]⟩, by rw [List.getElem?_map, Array.getElem?_toList, hc] <;> rfl, u, e⟩
    rcases strIter_cases y with e | e
    · refine ⟨_, _, _, _, Draws.strAscii hh it y t, by rw [← e]; exact st, by simp, item, by simp, fun c hc => .inl (by simpa using hc), fun j h' z => ⟨y, t, rfl, by rw [e]; exact z⟩⟩
    · refine ⟨_, _, _, _, Draws.strWide hh it y t, by rw [← e]; exact st, by simp, item, by simp, fun c hc => .inl (by simpa using hc), fun j h' z => ⟨y, t, rfl, by rw [e]; exact z⟩⟩
theorem kSt.live {k : ZK} {u : Value} {it : Addr} {i : Nat} {h : Heap} (st : kSt k u it i h) : ∃ o, h.get? it = some o ∧ ∀ v, o.data ≠ .cell v := by
  cases k with
  | l => obtain ⟨_, _, o, e, _, d⟩ := st; exact ⟨o, e, fun v q => by rw [d] at q; cases q⟩
  | t => obtain ⟨_, _, o, e, _, d⟩ := st; exact ⟨o, e, fun v q => by rw [d] at q; cases q⟩
  | s => obtain ⟨_, _, _, o, e, _, d⟩ := st; exact ⟨o, e, fun v q => by rw [d] at q; cases q⟩
theorem kSt.at {k : ZK} {u : Value} {it : Addr} {i : Nat} {h h' : Heap} (st : kSt k u it i h) (f : ∀ o, h.get? it = some o → h'.get? it = some o) : kSt k u it i h' := by
  cases k with
  | l => obtain ⟨a, e, o, e1, r⟩ := st; exact ⟨a, e, o, f _ e1, r⟩
  | t => obtain ⟨a, e, o, e1, r⟩ := st; exact ⟨a, e, o, f _ e1, r⟩
  | s => obtain ⟨a, t, e, o, e1, r⟩ := st; exact ⟨a, t, e, o, f _ e1, r⟩
theorem kIt.lt (I : Inv X pins σ H s) {k : ZK} {v : V} {u : Value} {xs : List V} (r : RelV v u) (q : kIt X.K k H v xs) : ∀ a, u = .ref a → a < s.heap.objs.size := by
  intro a e
  cases k with
  | l =>
    obtain ⟨b, rfl, q⟩ := q
    obtain ⟨its, rv, p, _⟩ := I.list q
    have z : u = Value.ref b := r
    rw [e] at z
    injection z with z
    rw [z]
    exact p.lt
  | t =>
    obtain ⟨b, rfl, q⟩ := q
    obtain ⟨its, rv, p, _⟩ := I.tuple q
    have z : u = Value.ref b := r
    rw [e] at z
    injection z with z
    rw [z]
    exact p.lt
  | s =>
    obtain ⟨b, rfl, q⟩ := q
    obtain ⟨t, z⟩ := (show ∃ t, u = Value.str b t from r)
    rw [e] at z
    cases z
theorem kIt.inj (I : Inv X pins σ H s) {k : ZK} {v : V} {xs ys : List V} (h : kIt X.K k H v xs) (q : kIt X.K k H v ys) : xs = ys := by
  cases k with
  | l =>
    obtain ⟨a, rfl, h⟩ := h
    obtain ⟨b, e, q⟩ := q
    injection e with e
    subst e
    exact I.list_inj h q
  | t =>
    obtain ⟨a, rfl, h⟩ := h
    obtain ⟨b, e, q⟩ := q
    injection e with e
    subst e
    exact I.tuple_inj h q
  | s =>
    obtain ⟨a, rfl, h⟩ := h
    obtain ⟨b, e, q⟩ := q
    injection e with e
    subst e
    rw [h, q]
theorem kBegins (I : Inv X pins σ H s) {k : ZK} {v : V} {u : Value} {xs : List V} (r : RelV v u) (q : kIt X.K k H v xs) : ∃ Hh : Heap → Prop, Begins u (kObj k u) Hh ∧ Hh s.heap := by
  cases k with
  | l =>
    obtain ⟨b, rfl, q⟩ := q
    obtain ⟨its, rv, p, _⟩ := I.list q
    cases (show u = Value.ref b from r)
    exact ⟨_, begins_list b its.toArray, p.isList⟩
  | t =>
    obtain ⟨b, rfl, q⟩ := q
    obtain ⟨its, rv, p, _⟩ := I.tuple q
    cases (show u = Value.ref b from r)
    exact ⟨_, begins_tuple b its.toArray, p⟩
  | s =>
    obtain ⟨b, rfl, q⟩ := q
    obtain ⟨t, rfl⟩ := (show ∃ t, u = Value.str b t from r)
    exact ⟨_, begins_text b t, trivial⟩
theorem kBegun {k : ZK} {v : V} {u : Value} {xs : List V} {it : Addr} {h : Heap} (r : RelV v u) (q : kIt X.K k H v xs) (e : h.get? it = some (kObj k u)) : kSt k u it 0 h := by
  cases k with
  | l => obtain ⟨b, rfl, q⟩ := q; cases (show u = Value.ref b from r); exact ⟨b, rfl, _, e, rfl, rfl⟩
  | t => obtain ⟨b, rfl, q⟩ := q; cases (show u = Value.ref b from r); exact ⟨b, rfl, _, e, rfl, rfl⟩
  | s => obtain ⟨b, rfl, q⟩ := q; obtain ⟨t, rfl⟩ := (show ∃ t, u = Value.str b t from r); exact ⟨b, t, rfl, _, e, rfl, rfl⟩
end
/-- pairs of items as they stand at each turn -/
def ItzX (K : PySem.W.Frag) (k1 k2 : ZK) (u v : V) : It :=
  ⟨fun i H => ∃ (xs ys : List V) (x y : V), kIt K k1 H u xs ∧ kIt K k2 H v ys ∧ xs[i]? = some x ∧ ys[i]? = some y,
    fun i H z H' => ∃ T x y, z = .ref T ∧ H T = none ∧ H' = upd H T (.tup [x, y]) ∧ (∀ xs, kIt K k1 H u xs → xs[i]? = some x) ∧ ∀ ys, kIt K k2 H v ys → ys[i]? = some y,
    fun i H => ∃ xs ys : List V, kIt K k1 H u xs ∧ kIt K k2 H v ys ∧ i = min xs.length ys.length⟩

structure ApX (z TI TO i1 i2 : Addr) (u v : Value) : Prop where
  TIz : TI ≠ z
  TOz : TO ≠ z
  TITO : TI ≠ TO
  TIi1 : TI ≠ i1
  TIi2 : TI ≠ i2
  zi1 : z ≠ i1
  zi2 : z ≠ i2
  Ti1 : TO ≠ i1
  Ti2 : TO ≠ i2
  i12 : i1 ≠ i2
  src : ∀ a, u = .ref a ∨ v = .ref a → a ≠ z ∧ a ≠ TO ∧ a ≠ i1 ∧ a ≠ i2
theorem ApX.sep {z TI TO i1 i2 : Addr} {u v : Value} (D : ApX z TI TO i1 i2 u v) {fp1 fp2 : List Addr} (m1 : i1 ∈ fp1) (m2 : i2 ∈ fp2) (o1 : ∀ c ∈ fp1, c = i1 ∨ u = .ref c) (o2 : ∀ c ∈ fp2, c = i2 ∨ v = .ref c) : ZipSep2 z TI TO i1 i2 fp1 fp2 where
  TIz := D.TIz
  TOz := D.TOz
  TITO := D.TITO
  TIi1 := D.TIi1
  mem1 := m1
  zf1 := fun h => (o1 _ h).elim D.zi1 fun e => (D.src _ (.inl e)).1 rfl
  Tf1 := fun h => (o1 _ h).elim D.Ti1 fun e => (D.src _ (.inl e)).2.1 rfl
  TIi2 := D.TIi2
  mem2 := m2
  zf2 := fun h => (o2 _ h).elim D.zi2 fun e => (D.src _ (.inr e)).1 rfl
  Tf2 := fun h => (o2 _ h).elim D.Ti2 fun e => (D.src _ (.inr e)).2.1 rfl
  sep1_2 := fun h => (o2 _ h).elim D.i12 fun e => (D.src _ (.inr e)).2.2.1 rfl
  sep2_1 := fun h => (o1 _ h).elim (fun e => D.i12 e.symm) fun e => (D.src _ (.inl e)).2.2.2 rfl
theorem turn_zipX {P : Program} {w : World} {K : PySem.W.Frag} {elts : List Expr} {kk : Nat} {tpos : Pos} {k1 k2 : ZK} {x0 y0 : V} {u v : Value} {z TI TO i1 i2 : Addr} (r1 : RelV x0 u) (r2 : RelV y0 v) (D : ApX z TI TO i1 i2 u v) :
    Turn P w K (.Tuple elts kk tpos) (ItzX K k1 k2 x0 y0) [z, TI, TO, i1, i2] z (fun i h => IsZip h z TI TO .none ∧ IsTupOf2 h TI (.ref i1) (.ref i2) ∧ (∃ x y, IsTupOf2 h TO x y) ∧ kSt k1 u i1 i h ∧ kSt k2 v i2 i h) where
  mem := by simp
  obj := fun i h st c hc => by
    obtain ⟨hz, hTI, ⟨x, y, hTO⟩, h1, h2⟩ := st
    have e' : c = z ∨ c = TI ∨ c = TO ∨ c = i1 ∨ c = i2 := by simpa using hc
    rcases e' with q | q | q | q | q
    · rw [q]; exact ⟨_, hz, fun v q => nomatch q⟩
    · rw [q]; exact ⟨_, hTI, fun v q => nomatch q⟩
    · rw [q]; exact ⟨_, hTO, fun v q => nomatch q⟩
    · rw [q]; exact h1.live
    · rw [q]; exact h2.live
  keep := fun i h h' st k => by
    obtain ⟨hz, hTI, ⟨x, y, hTO⟩, h1, h2⟩ := st
    exact ⟨k z (by simp) _ hz, k TI (by simp) _ hTI, ⟨x, y, k TO (by simp) _ hTO⟩, h1.at fun o q => k i1 (by simp) o q, h2.at fun o q => k i2 (by simp) o q⟩
  item := by
    intro X hP hw hK hc i pins s σ H E I hf st hg
    subst hP hw hK
    obtain ⟨hz, hTI, ⟨a0, b0, hTO⟩, h1, h2⟩ := st
    obtain ⟨xs, ys, x, y, hqx, hqy, hx, hy⟩ := hg
    have ne1 : u ≠ .ref i1 := fun e => (D.src _ (.inl e)).2.2.1 rfl
    have ne2 : v ≠ .ref i2 := fun e => (D.src _ (.inr e)).2.2.2 rfl
    obtain ⟨fp1, n1, P1, St1, D1⟩ := kDraws (A := X.A.in1) (I.ok.hd hc) I r1 hqx h1 ne1
    obtain ⟨fp2, n2, P2, St2, D2⟩ := kDraws (A := X.A.in1) (I.ok.hd hc) I r2 hqy h2 ne2
    have hzl : z < s.heap.objs.size := Heap.lt_size hz
    have S := D.sep D1.mem D2.mem D1.only D2.only
    refine wpAny_pyNext_zipD2_item S D1.draws D2.draws hz hTI hTO D1.st D2.st (by rw [D1.len]; exact lt_of_get hx) (by rw [D2.len]; exact lt_of_get hy) fun w1 w2 h' tk p1 p2 z' TO' s1 s2 hT hsz hk => ?_
    obtain ⟨x', hx', ru⟩ := D1.item _ _ p1
    obtain ⟨y', hy', ru2⟩ := D2.item _ _ p2
    rw [hx] at hx'
    cases hx'
    rw [hy] at hy'
    cases hy'
    refine ⟨_, rfl, wpAny_letOwnedTupleGo_zip (s := { s with heap := h', toks := tk }) z' fun h'' z'' sb => ?_⟩
    have hT2 : h''.get? s.heap.objs.size = some { cls := .type "tuple", data := .seq #[w1, w2] } := (sb.2 _ (Nat.ne_of_gt hzl)).trans hT
    have new : ObjOk X.prog X.w (upd H s.heap.objs.size (.tup [x, y])) h'' s.heap.objs.size (.tup [x, y]) :=
      ⟨by show 2 ≤ sizeLine; decide, [w1, w2], .cons ru (.cons ru2 .nil), ⟨_, hT2, rfl, _, rfl⟩⟩
    have I1 : Inv X pins σ (upd H s.heap.objs.size (.tup [x, y])) { s with heap := h'', toks := tk } :=
      I.turnedNew (t' := tk) (ch := [z, TI, TO, i1, i2]) (fun c o hb q => (sb.2 c (fun q' => hb (by simp [q']))).trans (hk c o (fun q' => hb (by simp [q'])) (fun q' => hb (by simp [q'])) (fun q' => hb (by simp [q'])) (fun q' => hb (by simp [q'])) q)) hf (Nat.le_refl _) new
    refine ⟨.ref s.heap.objs.size, _, I1, rfl, ⟨_, x, y, rfl, I.hok.fresh (Nat.le_refl _), rfl, fun l hl => by rw [kIt.inj I hl hqx]; exact hx, fun l hl => by rw [kIt.inj I hl hqy]; exact hy⟩, ⟨z'', ?_, ⟨w1, w2, ?_⟩, ?_, ?_⟩, fun c hcm => ?_⟩
    · exact (sb.2 _ D.TIz).trans (hk _ _ D.TIz D.TITO D.TIi1 D.TIi2 hTI)
    · exact (sb.2 _ D.TOz).trans TO'
    · exact (D1.back _ _ s1).at fun o q => (sb.2 _ (Ne.symm D.zi1)).trans q
    · exact (D2.back _ _ s2).at fun o q => (sb.2 _ (Ne.symm D.zi2)).trans q
    · have hlt : c < s.heap.objs.size := by
        have e' : c = z ∨ c = TI ∨ c = TO ∨ c = i1 ∨ c = i2 := by simpa using hcm
        rcases e' with q | q | q | q | q
        · rw [q]; exact hzl
        · rw [q]; exact Heap.lt_size hTI
        · rw [q]; exact Heap.lt_size hTO
        · rw [q]; obtain ⟨_, e1, _⟩ := h1.live; exact Heap.lt_size e1
        · rw [q]; obtain ⟨_, e2, _⟩ := h2.live; exact Heap.lt_size e2
      rw [upd_ne (Nat.ne_of_lt hlt)]
      exact (hf c hcm).1
  done := by
    intro X hP hw hK hc i pins s σ H E I hf st hg
    subst hP hw hK
    obtain ⟨hz, hTI, ⟨a0, b0, hTO⟩, h1, h2⟩ := st
    obtain ⟨xs, ys, hqx, hqy, hend⟩ := hg
    have ne1 : u ≠ .ref i1 := fun e => (D.src _ (.inl e)).2.2.1 rfl
    have ne2 : v ≠ .ref i2 := fun e => (D.src _ (.inr e)).2.2.2 rfl
    obtain ⟨fp1, n1, P1, St1, D1⟩ := kDraws (A := X.A.in1) (I.ok.hd hc) I r1 hqx h1 ne1
    obtain ⟨fp2, n2, P2, St2, D2⟩ := kDraws (A := X.A.in1) (I.ok.hd hc) I r2 hqy h2 ne2
    have S := D.sep D1.mem D2.mem D1.only D2.only
    have l1 := D1.len
    have l2 := D2.len
    exact wpAny_pyNext_zipD2_end S D1.draws D2.draws hz hTI hTO D1.st D2.st (by omega) (by omega) (by omega) fun h' tk hk => ⟨rfl, I.turnedL (t' := tk) (ch := [z, TI, TO, i1, i2]) (fun c o hb q =>
      hk c o (fun q' => hb (by simp [q'])) (fun q' => hb (by simp [q'])) (fun q' => hb (by simp [q'])) (fun q' => hb (by simp [q'])) q) hf⟩
  self := fun A i s Q E st h => wpAny_pyIter_zip st.1 h
def iZipX (K : PySem.W.Frag) (ta : TA) : TI := fun σ H R => ta σ H fun vs H1 => ∃ k1 k2 u v xs ys, vs = [u, v] ∧ kIt K k1 H1 u xs ∧ kIt K k2 H1 v ys ∧ R (ItzX K k1 k2 u v) H1
theorem pi_zipX {X : Cx} {e e2 : Expr} {ta : TA} {p pos tpos : Pos} {elts : List Expr} {kk : Nat} (hg : Gl X "zip") (hm : X.mg "zip" = none) (ha : PA X [e, e2] ta)
    (hs : starEach [e, e2] X.env = (false, eval e X.env) :: starEach [e2] X.env := by rfl) (hpl : (backTo pos (starEach [e2] X.env)).any (·.1) = false := by rfl) :
    PI X (.Tuple elts kk tpos) (.Call (.Name "zip" p) [e, e2] [] pos) (iZipX X.K ta) := by
  refine ⟨fun pins s σ H R I h => ?_⟩
  refine Call_ (ld_blt I hg hm PyProof.Rows.boot_zip (PyProof.Rows.callWith_type1 (thn (ha.run pos pins s σ H _ I h) fun us s1 ⟨vs, H1, I1, r1, q1⟩ => ?_) hs hpl))
  obtain ⟨k1, k2, a, b, xs, ys, ex, hqx, hqy, q1⟩ := q1
  subst ex
  obtain ⟨u, v, rfl, r1, r2⟩ := vals2 r1
  have fresh5 : ∀ c, c ∈ [s1.heap.objs.size + 4, s1.heap.objs.size + 2, s1.heap.objs.size + 3, s1.heap.objs.size, s1.heap.objs.size + 1] → FpOk X pins H1 c := fun c hcm => by
    have e' : c = s1.heap.objs.size + 4 ∨ c = s1.heap.objs.size + 2 ∨ c = s1.heap.objs.size + 3 ∨ c = s1.heap.objs.size ∨ c = s1.heap.objs.size + 1 := by simpa using hcm
    have hle : s1.heap.objs.size ≤ c := by
      rcases e' with z | z | z | z | z
      · rw [z]; exact Nat.le_add_right _ _
      · rw [z]; exact Nat.le_add_right _ _
      · rw [z]; exact Nat.le_add_right _ _
      · rw [z]; exact Nat.le_refl _
      · rw [z]; exact Nat.le_add_right _ _
    exact I1.fpOk hle (I1.hok.fresh hle)
  obtain ⟨Ha, B1, ha1⟩ := kBegins I1 r1 hqx
  obtain ⟨Hb, B2, hb1⟩ := kBegins I1 r2 hqy
  refine zip_begins2 B1 B2 ha1 hb1 fun h' hz hTI hTO h1 h2 hsz hk => wpAny_pyIter_zip hz ?_
  have I2 : Inv X pins σ H1 { s1 with heap := h' } := I1.kept (t' := s1.toks) hk
  have lu := kIt.lt I1 r1 hqx
  have lv := kIt.lt I1 r2 hqy
  have ap : ApX (s1.heap.objs.size + 4) (s1.heap.objs.size + 2) (s1.heap.objs.size + 3) s1.heap.objs.size (s1.heap.objs.size + 1) u v := by
    refine ⟨?_, ?_, ?_, ?_, ?_, ?_, ?_, ?_, ?_, ?_, fun a e => ?_⟩
    all_goals first
      | (intro q; exact absurd q (by simp))
      | skip
    have lt : a < s1.heap.objs.size := e.elim (lu a) (lv a)
    exact ⟨Nat.ne_of_lt (Nat.lt_of_lt_of_le lt (Nat.le_add_right _ _)), Nat.ne_of_lt (Nat.lt_of_lt_of_le lt (Nat.le_add_right _ _)), Nat.ne_of_lt lt, Nat.ne_of_lt (Nat.lt_of_lt_of_le lt (Nat.le_add_right _ _))⟩
  exact ⟨s1.heap.objs.size + 4, [s1.heap.objs.size + 4, s1.heap.objs.size + 2, s1.heap.objs.size + 3, s1.heap.objs.size, s1.heap.objs.size + 1], _, _, H1, rfl, I2, turn_zipX r1 r2 ap,
    ⟨hz, hTI, ⟨_, _, hTO⟩, kBegun r1 hqx h1, kBegun r2 hqy h2⟩, fresh5, q1⟩
/-! ### its source, typed -/
def OkK {α : Type} (A : Rel α) : ZK → V → List α → Hp → Prop
  | .l, v, ds => fun H => ∃ a, v = .ref a ∧ OkL A a ds H
  | .t, v, ds => fun H => ∃ a, v = .ref a ∧ OkT A a ds H
  | .s, v, ds => fun H => ∃ x : Str, v = .str x ∧ Paired (A H) (x.cps.toList.map fun c => V.str ⟨#[c]⟩) ds
theorem okK_it {α : Type} {A : Rel α} {K : PySem.W.Frag} {k : ZK} {v : V} {ds : List α} {H : Hp} (h : OkK A k v ds H) : ∃ xs, kIt K k H v xs ∧ Paired (A H) xs ds := by
  cases k with
  | l => obtain ⟨a, e, vs, hv, p⟩ := h; exact ⟨vs, ⟨a, e, SqL.of hv⟩, p⟩
  | t => obtain ⟨a, e, vs, hv, p⟩ := h; exact ⟨vs, ⟨a, e, SqT.of hv⟩, p⟩
  | s => obtain ⟨x, e, p⟩ := h; exact ⟨_, ⟨x, e, rfl⟩, p⟩
theorem src_zip {α β : Type} {A : Rel α} {B : Rel β} {K : PySem.W.Frag} {k1 k2 : ZK} {u v : V} {ds : List α} {es : List β} [Mon A] [Mon B] : Src (ItzX K k1 k2 u v) (fun H => OkK A k1 u ds H ∧ OkK B k2 v es H) (rP A B) (ds.zip es) where
  stop := fun H ⟨h1, h2⟩ => by
    obtain ⟨xs, i1, p1⟩ := okK_it (K := K) h1
    obtain ⟨ys, i2, p2⟩ := okK_it (K := K) h2
    exact ⟨xs, ys, i1, i2, by rw [List.length_zip, pr_len p1, pr_len p2]⟩
  go := fun i H hi ⟨h1, h2⟩ => by
    obtain ⟨xs, i1, p1⟩ := okK_it (K := K) h1
    obtain ⟨ys, i2, p2⟩ := okK_it (K := K) h2
    rw [List.length_zip] at hi
    have l1 := pr_len p1
    have l2 := pr_len p2
    exact ⟨xs, ys, xs[i]'(by omega), ys[i]'(by omega), i1, i2, by simp, by simp⟩
  yld := fun i H x H' d hd ⟨h1, h2⟩ y => by
    obtain ⟨T, x', y', rfl, hT, rfl, f1, f2⟩ := y
    obtain ⟨xs, i1, p1⟩ := okK_it (K := K) h1
    obtain ⟨ys, i2, p2⟩ := okK_it (K := K) h2
    rw [List.getElem?_zip_eq_some] at hd
    obtain ⟨a, ha, ra⟩ := pr_get' p1 hd.1
    obtain ⟨b, hb, rb⟩ := pr_get' p2 hd.2
    rw [f1 xs i1] at ha
    cases ha
    rw [f2 ys i2] at hb
    cases hb
    have s := Same.new (o := .tup [x', y']) hT
    exact ⟨s, T, x', y', rfl, upd_same, mn s ra, mn s rb⟩
theorem okK_mono {α : Type} {A : Rel α} [Mon A] {k : ZK} {v : V} {ds : List α} {H H' : Hp} (s : Same H H') (h : OkK A k v ds H) : OkK A k v ds H' := by
  cases k with
  | l => obtain ⟨a, e, h⟩ := h; exact ⟨a, e, okL_mono s h⟩
  | t => obtain ⟨a, e, h⟩ := h; exact ⟨a, e, okT_mono s.tk h⟩
  | s => obtain ⟨x, e, p⟩ := h; exact ⟨x, e, mnL s.tk p⟩
/-! ### enumerate of a list -/
theorem src_enum {α : Type} {A : Rel α} {K : PySem.W.Frag} {a : Addr} {ds : List α} [Mon A] : Src (Ite K a) (OkL A a ds) (rP rI A) (ds.zipIdx.map fun p => ((p.2 : Int), p.1)) where
  stop := fun H ⟨vs, h, p⟩ => ⟨vs, SqL.of h, by rw [List.length_map, List.length_zipIdx, pr_len p]; exact Nat.le_refl _⟩
  go := fun i H hi ⟨vs, h, p⟩ => by
    rw [List.length_map, List.length_zipIdx] at hi
    exact ⟨vs, vs[i]'(by rw [pr_len p]; exact hi), SqL.of h, by simp⟩
  yld := fun i H x H' d hd ⟨vs, h, p⟩ y => by
    obtain ⟨T, x', rfl, hT, rfl, f⟩ := y
    rw [List.getElem?_map, List.getElem?_zipIdx] at hd
    cases e : ds[i]? with
    | none => rw [e] at hd; cases hd
    | some d0 =>
      rw [e] at hd
      obtain rfl := (Option.some.inj hd).symm
      obtain ⟨v, hv, r⟩ := pr_get' p e
      rw [f vs (SqL.of h)] at hv
      cases hv
      have s := Same.new (o := .tup [.int (i : Nat), x']) hT
      exact ⟨s, T, _, x', rfl, upd_same, by show V.int _ = V.int _; simp, mn s r⟩
end K5
set_option maxHeartbeats 4000000
/-! ### set(xs), xs a list of texts that differ -/
namespace K5S
open PySem PyProof.Rows
variable {prog : Program} {w : World} {A : Around} {E : Value → Shared → Prop} {s : Shared}
section
variable {R : Result → Shared → Prop} {I : Addr} {fp wr : List Addr} {G : Array GenState → Array GenState → Prop} {n : Nat} {P : Nat → Value → Prop} {St : Nat → Shared → Prop}
theorem upd_loop (W : WalksS prog w A.in1 I fp wr G n P St) (S : Addr) (hSf : S ∉ fp) (ss : List PySem.Str) (hlen : ss.length = n) (hnd : ss.Nodup) (hval : ∀ i v, P i v → ∃ z t, ss[i]? = some z ∧ v = .str z t) (hb : n + 1 < scanBound) :
    ∀ (k i : Nat) (s : Shared), n - i = k → i ≤ n → St i s → s.heap.SetOf (strKind prog w) S (fun z => decide (z ∈ ss.take i)) i →
      (∀ s', Moved (S :: wr) G s s' → s'.heap.SetOf (strKind prog w) S (fun z => decide (z ∈ ss.take n)) n → R (.ok (.ret .none)) s') →
      codeAny (model prog w) A (.builtin "set.update.loop" ⟨[.ref S, .ref I], []⟩) R s := by
  have hSw : S ∉ wr := fun h => hSf (W.sub _ h)
  have hsub : ∀ b ∈ wr, b ∈ S :: wr := fun b hb => List.mem_cons_of_mem _ hb
  intro k
  induction k with
  | zero =>
    intro i s hk hi hst hS hR
    have hin : i = n := by omega
    subst hin
    refine codeAny_builtin F.entry_set_update_loop ?_
    rw [Around.under_plainId F.plain_set_update_loop _]
    show wpAny _ A.in1 (pyNext (.ref I) >>= _) _ _ s
    refine wpAny_bind (W.done s _ _ hst fun s' hm => ?_)
    show wpAny _ A.in1 (ret Value.none) _ _ s'
    exact wpAny_pure (hR s' (hm.mono hsub) (by
      obtain ⟨o, es, ep, t, ho, rest⟩ := hS
      exact ⟨o, es, ep, t, hm.heap S _ hSw ho, rest⟩))
  | succ k ih =>
    intro i s hk hi hst hS hR
    have hlt : i < n := by omega
    refine codeAny_builtin F.entry_set_update_loop ?_
    rw [Around.under_plainId F.plain_set_update_loop _]
    show wpAny _ A.in1 (pyNext (.ref I) >>= _) _ _ s
    refine wpAny_bind (W.item i s _ _ hlt hst fun v s' hP hst' hm => ?_)
    obtain ⟨z, t, hz, rfl⟩ := hval i v hP
    have hS' : s'.heap.SetOf (strKind prog w) S (fun z => decide (z ∈ ss.take i)) i := by
      obtain ⟨o, es, ep, tb, ho, rest⟩ := hS
      exact ⟨o, es, ep, tb, hm.heap S _ hSw ho, rest⟩
    have hnot : z ∉ ss.take i := fun hm => by
      obtain ⟨j, hj⟩ := List.mem_iff_getElem?.mp hm
      rw [List.getElem?_take] at hj
      by_cases hji : j < i
      · rw [if_pos hji] at hj
        obtain ⟨hjl, ej⟩ := List.getElem?_eq_some_iff.mp hj
        obtain ⟨hil, ei⟩ := List.getElem?_eq_some_iff.mp hz
        exact absurd (ej.trans ei.symm) (List.pairwise_iff_getElem.mp hnd j i hjl hil hji)
      · rw [if_neg hji] at hj
        cases hj
    show wpAny _ A.in1 (holding [Value.str z t] (setAdd S (.str z t)) >>= _) _ _ s'
    refine wpAny_bind (wpAny_holding ?_)
    unfold setAdd
    refine wpAny_holding ?_
    refine wpAny_bind ((strKind prog w).pyHash (k := z) (strKind_is _ _ _ _) ?_)
    refine wpAny_setAddHashed_of (knd := strKind prog w) (s := { s' with toks := s'.toks + 1 }) (strKind_is _ _ _ _) rfl hS' (by omega) fun h' hsb hS2 => ?_
    have hSi : h'.SetOf (strKind prog w) S (fun y => decide (y ∈ ss.take (i + 1))) (i + 1) := by
      refine SetOf_congr hS2 (fun y => ?_) ?_
      · have e : ss.take (i + 1) = ss.take i ++ [z] := by
          rw [List.take_add_one, hz] <;> rfl
        rw [e]
        simp only [List.mem_append, List.mem_singleton, Bool.decide_or]
      · show (if decide (z ∈ ss.take i) = true then i else i + 1) = i + 1
        rw [if_neg (by simpa using hnot)]
    refine wpAny_pure ⟨plainId_quiet F.plain_set_update_loop _, ih (i + 1) _ (by omega) hlt (W.frame _ s' _ _ hst' (Nat.le_succ _) fun b hb o e => ?_) hSi fun s'' hm'' hS'' => ?_⟩
    · rw [hsb.2 b (fun h : b = S => hSf (by rw [← h]; exact hb))]; exact e
    · refine hR s'' (Moved.trans W.gtrans ((hm.mono hsub).then_heap (Nat.le_succ _) fun b o hb e => ?_) hm'') hS''
      rw [hsb.2 b (fun h : b = S => hb (by rw [h]; exact List.mem_cons_self))]; exact e
end
theorem call_set_strs {l : Addr} {its : List Value} {ss : List PySem.Str} {Q : Value → Shared → Prop} (hh : A.handled = none) (hl : s.heap.IsList l its.toArray) (hlen : its.length = ss.length) (hi : ∀ (i : Nat) (v : Value), its[i]? = some v → ∃ z t, ss[i]? = some z ∧ v = .str z t)
    (hnd : ss.Nodup) (hb : ss.length + 1 < scanBound)
    (h : ∀ (h' : Heap) (tk : Nat), h'.SetOf (strKind prog w) s.heap.objs.size (fun z => decide (z ∈ ss)) ss.length → (∀ b o, b < s.heap.objs.size → s.heap.get? b = some o → h'.get? b = some o) → Q (.ref s.heap.objs.size) { s with heap := h', toks := tk }) :
    wpAny (model prog w) A (call (.type "set") [.ref l]) Q E s := by
  obtain ⟨c, tl, hmro⟩ := F.called_set.mro
  have hmade := F.called_set.made
  have hsub := F.called_set.sub
  have size : its.toArray.size = ss.length := by rw [List.size_toArray, hlen]
  refine wpAny_call (codeAny_of_tree ?_)
  show wpAny _ _ (callAny (.type "set") _) _ _ _
  refine wpAny_pure ⟨Code.quiet_builtin _ (by decide +kernel), codeAny_builtin F.entry_type_call ?_⟩
  rw [Around.under_plain (weight_type_call_type "set" [.ref l] []) rfl]
  have h1 := F.called_set.notType
  have h2 := F.called_set.canCreate
  have hct := F.typeCall_set_1 (.ref l)
  repeat (any_goals (first | assumption | wp_step))

  refine codeAny_mono (code_set_new_1 (.ref l) (E := E) (Q₁ := fun obj s₁ => ∃ led : Bool, obj = .ref s.heap.objs.size ∧ s₁ = { s with heap := s.heap.push { cls := .type "set", dict := none, data := .set #[] 0 (.fresh 0 0 led) } }) fun led => ⟨led, rfl, rfl⟩) fun r s₁ hr => ?_
  cases r with
  | error e => exact hr
  | ok fl =>
    cases fl with
    | ret obj =>
      obtain ⟨led, rfl, rfl⟩ := hr
      have hS : (s.heap.push { cls := .type "set", dict := none, data := .set #[] 0 (.fresh 0 0 led) }).get? s.heap.objs.size = some { cls := .type "set", dict := none, data := .set #[] 0 (.fresh 0 0 led) } := Heap.get?_push_size _ rfl
      have hT : Shared.TypeIs { s with heap := s.heap.push { cls := .type "set", dict := none, data := .set #[] 0 (.fresh 0 0 led) } } (.ref s.heap.objs.size) "set" := ⟨_, hS, rfl⟩
      have hli := F.called_set.init.lookup
      have hbi := F.called_set.init.bind (.ref s.heap.objs.size)
      repeat (any_goals (first | assumption | wp_step))

      refine codeAny_mono (codeAny_call_builtin (R := wants (fun r s₂ => r = .none ∧ ∃ h' tk, s₂ = { s with heap := h', toks := tk } ∧ h'.SetOf (strKind prog w) s.heap.objs.size (fun z => decide (z ∈ ss)) ss.length ∧
          (∀ b o, b < s.heap.objs.size → s.heap.get? b = some o → h'.get? b = some o)) E) F.called_set.init.plain F.entry_set_init (check_set_init_1 hT ?_)) fun r₂ s₂ hr₂ => ?_
      · obtain ⟨ol, hol, hcl, nl, hdl⟩ := hl
        obtain ⟨ocls, odict, odata, oslots⟩ := ol
        simp only at hcl hdl
        subst hcl; subst hdl
        have hol' : (s.heap.push { cls := .type "set", dict := none, data := .set #[] 0 (.fresh 0 0 led) }).get? l = some { cls := .type "list", dict := odict, data := .seq its.toArray nl, slots := oslots } := Heap.get?_push_of_some _ hol
        have hsls := F.sub_list_set
        have hslf := F.sub_list_frozenset
        have hne : (Value.type "list" == Value.type "dict") = false := by decide
        have hl1 : (s.heap.push { cls := .type "set", dict := none, data := .set #[] 0 (.fresh 0 0 led) }).IsList l its.toArray := ⟨_, hol', rfl, nl, rfl⟩
        unfold Builtin.«set.__init__» noKeywords Builtin.Frozenset.updateFrom
        generalize hPI : pyIter = PI
        wp_walk
        subst hPI

        refine wpAny_pyIter_list hl1 ?_
        refine wpAny_bind (wpAny_runValue ?_)
        have hlS : l < s.heap.objs.size := Heap.lt_size hol
        have hh3 : A.in1.in1.in1.handled = none := by simp [hh]
        have hneI : l ≠ (s.heap.push { cls := .type "set", dict := none, data := .set #[] 0 (.fresh 0 0 led) }).objs.size := by
          rw [Heap.size_push]; exact Nat.ne_of_lt (Nat.lt_succ_of_lt hlS)
        have hSf : s.heap.objs.size ∉ [(s.heap.push { cls := .type "set", dict := none, data := .set #[] 0 (.fresh 0 0 led) }).objs.size, l] := by
          rw [Heap.size_push]; simp only [List.mem_cons, List.mem_singleton, List.not_mem_nil, or_false, not_or]
          exact ⟨Nat.ne_of_lt (Nat.lt_succ_self _), Nat.ne_of_gt hlS⟩
        have hval : ∀ (i : Nat) (v : Value), its.toArray[i]? = some v → ∃ z t, ss[i]? = some z ∧ v = .str z t := fun i v hv => hi i v (by simpa using hv)
        refine upd_loop ((Walks.list hh3 _ l hneI its.toArray).toS) s.heap.objs.size
          hSf ss size.symm hnd hval (by rw [size]; exact hb) (its.toArray.size - 0) 0 _ (by omega) (Nat.zero_le _)
          ⟨⟨_, Heap.get?_push_size _ rfl, rfl, rfl⟩, (hl1.push _)⟩ ?hS0 ?hR
        case hS0 =>
          have hget : ((s.heap.push { cls := .type "set", dict := none, data := .set #[] 0 (.fresh 0 0 led) }).push { cls := .type "list_iterator", data := .fields #[.ref l, .int 0 0] }).get? s.heap.objs.size
              = some { cls := .type "set", dict := none, data := .set #[] 0 (.fresh 0 0 led) } := Heap.get?_push_of_some _ hS
          exact SetOf_congr ((setObjOf_fresh (knd := strKind prog w) led).setOf hget (by unfold scanBound; omega)) (fun _ => by simp) rfl
        case hR =>
          intro s' hm hS'
          obtain ⟨h', g', d', tk', os'⟩ := s'
          have eg : g' = s.gens := hm.gens
          have ed : d' = s.drawn := hm.drawn
          have eo : os' = s.os := hm.os
          subst eg; subst ed; subst eo
          show wpAny _ _ _ _ _ _
          refine wpAny_pure ?_
          show wpAny _ _ (ret Value.none) _ _ _
          rw [size, List.take_length] at hS'
          refine wpAny_pure ⟨rfl, h', tk', rfl, hS', fun b o hb e => ?_⟩
          have hb1 : b ≠ s.heap.objs.size := Nat.ne_of_lt hb
          have hb2 : b ≠ (s.heap.push { cls := .type "set", dict := none, data := .set #[] 0 (.fresh 0 0 led) }).objs.size := by
            rw [Heap.size_push]; exact Nat.ne_of_lt (Nat.lt_succ_of_lt hb)
          exact hm.heap b o (by simp only [List.mem_cons, List.mem_singleton, List.not_mem_nil, or_false, not_or]; exact ⟨hb1, hb2⟩) (Heap.get?_push_of_some _ (Heap.get?_push_of_some _ e))

      · cases r₂ with
        | error e => exact hr₂
        | ok fl₂ =>
          cases fl₂ with
          | ret r =>
            obtain ⟨rfl, h', tk, rfl, hS', hk'⟩ := hr₂
            repeat (any_goals (first | assumption | wp_step))
            exact h _ _ hS' hk'
          | _ => exact hr₂.elim
    | _ => exact hr.elim
end K5S
namespace K5
open PySem PySem.Spec PyProof.Rows L2
def tLenSetS (ta : TE) : TE := fun σ H Q => ta σ H fun x H1 => ∃ (l : Addr) (vs : List V) (ss : List Str), x = .ref l ∧ H1 l = some (.lst vs) ∧ Paired (rS H1) vs ss ∧ ss.Nodup ∧ ss.length ≤ 4000 ∧ Q (.int ss.length) H1
theorem pe_lenSetS {X : Cx} {a : Expr} {ta : TE} {p p2 q pos : Pos} (hg : Gl X "len") (hm : X.mg "len" = none) (hg2 : Gl X "set") (hm2 : X.mg "set" = none) (ha : PE X a ta) (hc : X.calm = true := by rfl)
    (na : starEach [a] X.env = (false, eval a X.env) :: starEach [] X.env := by rfl) : PE X (.Call (.Name "len" p) [.Call (.Name "set" p2) [a] [] q] [] pos) (tLenSetS ta) := by
  refine ⟨fun pins s σ H Q I h => ?_⟩
  refine Call_ (ld_blt I hg hm boot_len ?_)
  refine PyProof.Rows.callWith_builtin1 (PyProof.Rows.args_cons ?_ rfl) rfl rfl
  refine Call_ (ld_blt I hg2 hm2 boot_set ?_)
  refine PyProof.Rows.callWith_type1 (PyProof.Rows.args_cons (thn (ha.run pins s σ H _ I h) fun v s1 ⟨x, H1, I1, r1, q1⟩ => PyProof.Rows.args_nil ?_) na) na rfl
  obtain ⟨l, vs, ss, rfl, hq, hp, hnd, hl, q1⟩ := q1
  cases r1
  obtain ⟨its, r, pl, hz⟩ := I1.list (SqL.of hq)
  have hlen : its.length = ss.length := by rw [← r.length, pr_len hp]
  refine K5S.call_set_strs (I1.ok.hd hc) pl.isList hlen (fun i v hv => ?_) hnd (by unfold scanBound; omega) fun h' tk hS hk => ?_
  · obtain ⟨x, hx, rx⟩ := pr_get' r hv
    obtain ⟨z, hz, e⟩ := pr_get hp hx
    have e : x = .str z := e
    subst e
    obtain ⟨t, e⟩ := rx
    exact ⟨z, t, hz, e⟩
  · refine PyProof.Rows.args_nil ?_
    obtain ⟨o, es, ep, t, ho, hex, hd, _, _, _, hf, hn⟩ := hS
    have I2 : Inv X pins σ H1 { s1 with heap := h', toks := tk } := I1.kept fun b o e => hk b o (Heap.lt_size e) e
    exact call_len_set ho hex hd hf (by rw [hn] <;> omega) ⟨.int ss.length, H1, I2.tok _, ⟨_, by rw [hn]⟩, q1⟩
end K5
set_option maxHeartbeats 4000000
namespace K5
open PySem PySem.Spec PyProof.Rows L2
section
variable {X : Cx} {CX : CXT} {k : Nat} {C : Addr} {m x : Str} {sp : Sp} {E : XK} {p pos apos : Pos} {e o : Expr} {es : List Expr} {ta : TE} {t : TA}
theorem pm {pl : Sem Bool} (c : Mt X.prog X.w X.K X.mg X.base CX k C m sp) (hr : Room k X.A) (hx : Passes CX X E) (he : PE X o ta) (ha : PA X (e :: es) t)
    (hst : starEach (e :: es) X.env = (false, eval e X.env) :: starEach es X.env := by rfl) (hpl : (backTo pos (starEach es X.env)).any (·.1) = false := by rfl)
    (ht : eval (.Call (.Attribute o m apos) (e :: es) [] pos) X.env = (do
      let ov ← eval o X.env
      standAt apos.atName
      let (f, first) ← holding [ov] (getMethod ov m pl)
      callWith pos f first (backTo pos (starEach (e :: es) X.env)) (backToKw pos (keywordEach [] X.env))) := by rfl) :
    PE X (.Call (.Attribute o m apos) (e :: es) [] pos) (tMeth C m sp [] E ta t) := by
  obtain ⟨f, fd, ps, F, cl, hm, b⟩ := c.ex
  exact pe_meth he cl hm F hr b .nil hx ha hst hpl ht
theorem pm0 {pl : Sem Bool} (c : Mt X.prog X.w X.K X.mg X.base CX k C m sp) (hr : Room k X.A) (hx : Passes CX X E) (he : PE X o ta)
    (ht : eval (.Call (.Attribute o m apos) [] [] pos) X.env = (do
      let ov ← eval o X.env
      standAt apos.atName
      let (f, first) ← holding [ov] (getMethod ov m pl)
      callWith pos f first (backTo pos (starEach [] X.env)) (backToKw pos (keywordEach [] X.env))) := by rfl) :
    PE X (.Call (.Attribute o m apos) [] [] pos) (tMeth C m sp [] E ta tNil) := by
  obtain ⟨f, fd, ps, F, cl, hm, b⟩ := c.ex
  exact pe_meth0 he cl hm F hr b .nil hx ht
end
/-- a class that may be made -/
structure Mr (P : Program) (w : World) (K : PySem.W.Frag) (mg : Str → Option Value) (base : Heap) (CX : CXT) (k : Nat) (C : Addr) (x : Str) (sp : Sp) : Prop where
  ex : ∃ (f : Addr) (fd : FuncData) (ps : List Str), FnOk P w K mg base CX k f fd ps sp ∧ Mk K C f ∧ mg x = some (.ref C) ∧ Binds K fd ps []
/-- the __init__ st of the class at C -/
def MakAt (K : PySem.W.Frag) (mg : Str → Option Value) (C : Addr) (x q : Str) (st : Stmt) : Prop := ∃ f fd, FnP K "__init__" q st f fd ∧ Mk K C f ∧ mg x = some (.ref C)
section
variable {P : Program} {w : World} {K : PySem.W.Frag} {mg : Str → Option Value} {base : Heap} {CX : CXT} {C : Addr} {x q : Str} {st : Stmt} {N ps : List Str} {k : Nat} {sp : Sp}
theorem Mr.of (F : MakAt K mg C x q st) (S : FnScope N ps (defScope st)) (hb : BindH "__init__" q st ps) (len : ∀ vs H Q E, sp vs H Q E → vs.length = ps.length)
    (hbody : ∀ (f : Addr) (cdv : Value) (A : Around) (outer : List Env) (s : Shared) (H : Hp) (vs : List V) (Q : VK) (E : XK), Room k (A.deeper (envOfC q (defScope st) s.heap.objs.size f cdv)) → sp vs H Q E →
      ∃ t, PSs (cxOf CX P w K mg base N q (defScope st) f cdv A outer s H E) (defBody st) t ∧ t { nx := fun _ H' => Q .non H', rt := Q } (start N vs) H) : Mr P w K mg base CX (k + 1) C x sp := by
  obtain ⟨f, fd, F, c, me⟩ := F
  exact ⟨f, fd, ps, F.ok S len (hbody f), c, me, F.bindsN hb⟩
end
section
variable {X : Cx} {CX : CXT} {k : Nat} {C : Addr} {m x : Str} {sp : Sp} {E : XK} {p pos apos : Pos} {e o : Expr} {es : List Expr} {ta : TE} {t : TA}
theorem pk (c : Mr X.prog X.w X.K X.mg X.base CX k C x sp) (hr : Room (k + 1) X.A) (hx : Passes CX X E) (ha : PA X (e :: es) t) (hg : Gl X x := by rfl) (hdb : (x == ("__debug__" : Str)) = false := by decide)
    (he : starEach (e :: es) X.env = (false, eval e X.env) :: starEach es X.env := by rfl) (hpl : (backTo pos (starEach es X.env)).any (·.1) = false := by rfl) :
    PE X (.Call (.Name x p) (e :: es) [] pos) (tMake C sp [] E t) := by
  obtain ⟨f, fd, ps, F, M, hm, b⟩ := c.ex
  exact pe_make M F hr hg hm b .nil hx ha hdb he hpl
end
/-! ### comprehensions with closures -/
section
variable {X : Cx} {elt tg iter : Expr} {ifs : List Expr} {scope : Scope} {own : List (Str × Nat)} {pos spos : Pos} {wi : TI} {g : TG} {tt : TT} {te : TE}
theorem pe_lcS (hc : X.calm = true) (hN : X.N.Nodup) (hi : PI X tg iter wi) (ok : BlkOk X.N X.env.scope scope own)
    (hg : ∀ (s : Shared) (H : Hp) (C : Addr) (cl : List (Str × Addr)) (fp : List Addr), PG (X.blk s H scope (compEnvC scope cl C X.env) fp) tg g) (ht : ∀ (s : Shared) (H : Hp) (C : Addr) (cl : List (Str × Addr)) (fp : List Addr), PTs (X.blk s H scope (compEnvC scope cl C X.env) fp) ifs tt)
    (he : ∀ (s : Shared) (H : Hp) (C : Addr) (cl : List (Str × Addr)) (fp : List Addr), PE (X.blk s H scope (compEnvC scope cl C X.env) fp) elt te) (hs : ∀ x, foldedSetIterable iter X.env x = pure x := by intro _; rfl) :
    PE X (.ListComp elt [⟨tg, iter, ifs, 0⟩] scope pos) (tLc wi (clG g) (clT tt) (clE te) (own.map (·.2))) :=
  pe_lc hc hN hi ok (fun a b c d e => (hg a b c d e).cl) (fun a b c d e => (ht a b c d e).cl) (fun a b c d e => (he a b c d e).cl) hs
theorem ps_setLcS {i : Nat} {y : Str} {py : Pos} (hc : X.calm = true) (hN : X.N.Nodup) (hy : X.N[i]? = some y) (hyl : X.env.scope.names.lookup y = some .local)
    (hsw : swapsWith (.ListComp elt [⟨tg, iter, ifs, 0⟩] scope pos) (some (.Name y py)) spos.line X.env = pure true) (hi : PI X tg iter wi) (ok : BlkOk X.N X.env.scope scope own)
    (hg : ∀ (s : Shared) (H : Hp) (C : Addr) (cl : List (Str × Addr)) (fp : List Addr), PG (X.blk s H scope (compEnvC scope cl C X.env) fp) tg g) (ht : ∀ (s : Shared) (H : Hp) (C : Addr) (cl : List (Str × Addr)) (fp : List Addr), PTs (X.blk s H scope (compEnvC scope cl C X.env) fp) ifs tt)
    (he : ∀ (s : Shared) (H : Hp) (C : Addr) (cl : List (Str × Addr)) (fp : List Addr), PE (X.blk s H scope (compEnvC scope cl C X.env) fp) elt te) (hs : ∀ x, foldedSetIterable iter X.env x = pure x := by intro _; rfl) :
    PS X (.Assign [.Name y py] (.ListComp elt [⟨tg, iter, ifs, 0⟩] scope pos) spos) (tAsg (tLc wi (clG g) (clT tt) (clE te) (own.map (·.2))) (gName i)) :=
  ps_setLc hc hN hy hyl hsw hi ok (fun a b c d e => (hg a b c d e).cl) (fun a b c d e => (ht a b c d e).cl) (fun a b c d e => (he a b c d e).cl) hs
end
/-! ### calls of built-ins, by kinds -/
theorem pr_bool {H : Hp} : ∀ {vs : List V} {ns : List Bool}, Paired (rB H) vs ns → vs = ns.map V.bl
  | _, _, .nil => rfl
  | _, _, .cons r t => by rw [show _ = V.bl _ from r, pr_bool t] <;> rfl
def rAllS : List V → Hp → VK → Prop := fun vs H Q => ∃ a zs, ∃ bs : List Bool, vs = [.ref a] ∧ H a = some (.lst zs) ∧ Paired (rB H) zs bs ∧ Q (.bl (bs.all id)) H
def rAnyS : List V → Hp → VK → Prop := fun vs H Q => ∃ a zs, ∃ bs : List Bool, vs = [.ref a] ∧ H a = some (.lst zs) ∧ Paired (rB H) zs bs ∧ Q (.bl (bs.any id)) H
section
variable {X : Cx}
theorem cr_allS (hc : X.calm = true) : CallR X (.builtin "all") rAllS := CallR.weak (cr_all hc) fun _ _ _ ⟨a, zs, ns, e, h, p, q⟩ => ⟨a, ns, e, SqL.of (by rw [h, pr_bool p]), q⟩
theorem cr_anyS (hc : X.calm = true) : CallR X (.builtin "any") rAnyS := CallR.weak (cr_any hc) fun _ _ _ ⟨a, zs, ns, e, h, p, q⟩ => ⟨a, ns, e, SqL.of (by rw [h, pr_bool p]), q⟩
theorem isi_str : CallR X (.builtin "isinstance") (fun xs H Q => ∃ z, xs = [.str z, .ty "str"] ∧ Q (.bl true) H) := CallR.weak call_isi fun _ _ _ ⟨z, e, q⟩ => ⟨_, _, _, _, true, e, .ty "str", .base (.str z), kit_ty (by decide +kernel), q⟩
theorem isi_int : CallR X (.builtin "isinstance") (fun xs H Q => ∃ z, xs = [.int z, .ty "int"] ∧ Q (.bl true) H) := CallR.weak call_isi fun _ _ _ ⟨z, e, q⟩ => ⟨_, _, _, _, true, e, .ty "int", .base (.int z), kit_ty (by decide +kernel), q⟩
theorem isi_bool : CallR X (.builtin "isinstance") (fun xs H Q => ∃ z, xs = [.int z, .ty "bool"] ∧ Q (.bl false) H) := CallR.weak call_isi fun _ _ _ ⟨z, e, q⟩ => ⟨_, _, _, _, false, e, .ty "bool", .base (.int z), kit_ty (by decide +kernel), q⟩
theorem isi_tup : CallR X (.builtin "isinstance") (fun xs H Q => ∃ a vs, xs = [.ref a, .ty "tuple"] ∧ H a = some (.tup vs) ∧ Q (.bl true) H) := CallR.weak call_isi fun _ _ _ ⟨a, vs, e, h, q⟩ => ⟨_, _, _, _, true, e, .ty "tuple", .base (.tup h), kit_ty (by decide +kernel), q⟩
end
end K5
set_option maxHeartbeats 4000000
namespace K5
open PySem PySem.Spec PyProof.Rows L2
theorem _root_.L2.PG.weak {X : Cx} {e : Expr} {g g' : TG} (h : PG X e g) (w : ∀ x σ H Q, g' x σ H Q → g x σ H Q) : PG X e g' := ⟨fun pins s σ H v u Q I r q => h.run pins s σ H v u Q I r (w _ _ _ _ q)⟩
theorem _root_.L2.PS.weak {X : Cx} {e : Stmt} {t t' : TS} (h : PS X e t) (w : ∀ D σ H, t' D σ H → t D σ H) : PS X e t' := ⟨fun pins s σ H D I q => h.run pins s σ H D I (w _ _ _ q)⟩
def gTupS (n : Nat) (t : TGs) : TG := fun v σ H Q => ∃ a xs, v = .ref a ∧ H a = some (.tup xs) ∧ xs.length = n ∧ t xs σ H Q
def gLstS (n : Nat) (t : TGs) : TG := fun v σ H Q => ∃ a xs, v = .ref a ∧ H a = some (.lst xs) ∧ xs.length = n ∧ t xs σ H Q
section
variable {X : Cx} {pos : Pos} {es : List Expr} {k : Nat} {t : TGs} {n : Nat} {C : Addr} {e tv : Expr} {f : Str} {ta tb : TE}
theorem pg_tupS (hc : X.calm = true) (h : PGs X es t) (hn : (assignEach es X.env).length = n := by rfl) (hst : (assignEach es X.env).findIdx? (·.1) = none := by rfl) : PG X (.Tuple es k pos) (gTupS n t) :=
  (pg_tup hc h hn hst).weak fun _ _ _ _ ⟨a, xs, e, h, r⟩ => ⟨a, xs, e, SqT.of h, r⟩
theorem pg_lstS (hc : X.calm = true) (h : PGs X es t) (hn : (assignEach es X.env).length = n := by rfl) (hst : (assignEach es X.env).findIdx? (·.1) = none := by rfl) : PG X (.Tuple es k pos) (gLstS n t) :=
  (pg_lst hc h hn hst).weak fun _ _ _ _ ⟨a, xs, e, h, r⟩ => ⟨a, xs, e, SqL.of h, r⟩
/-- x in xs, a tracked list or tuple of flat things -/
def rInS (neg : Bool) : R2 := fun x y H Q => ∃ p xs, y = .ref p ∧ (H p = some (.lst xs) ∨ H p = some (.tup xs)) ∧ flatV x = true ∧ xs.all flatV = true ∧ Q (.bl (if neg then !inV x xs else inV x xs)) H
theorem op_inS : OpR X (compareOp .In) (rInS false) := OpR.weak op_in_seq fun _ _ _ _ ⟨p, xs, e, h, r⟩ => ⟨p, xs, e, h.imp SqL.of SqT.of, r⟩
theorem op_notInS : OpR X (compareOp .NotIn) (rInS true) := OpR.weak op_notIn_seq fun _ _ _ _ ⟨p, xs, e, h, r⟩ => ⟨p, xs, e, h.imp SqL.of SqT.of, r⟩
def tFldS (C : Addr) (ta : TE) (f : Str) : TE := fun σ H Q => ta σ H fun x H1 => ∃ a dx fs v, x = .ref a ∧ H1 a = some (.ins C dx fs) ∧ fs.lookup f = some v ∧ Q v H1
theorem pe_fldS (c : Cls X.K C) (n : NoAttr X.K C f) (he : PE X e ta) (hb : attributeBase e f X.env (eval e X.env) = eval e X.env) : PE X (.Attribute e f pos) (tFldS C ta f) := by
  refine ⟨fun pins s σ H Q I h => ?_⟩
  refine attr_of hb (thn (he.run pins s σ H _ I h) fun u s1 ⟨x, H1, I1, rx, a, dx, fs, v, ex, ea, l, q⟩ => ?_)
  subst ex
  obtain rfl : u = Value.ref a := rx
  exact getattr_ok I1 ea c n l fun u' s2 I2 ru => ⟨v, H1, I2, ru, q⟩
def sFldS (C : Addr) (ta tv : TE) (f : Str) : TS := fun D σ H => tv σ H fun y H1 => ta σ H1 fun x H2 => ∃ a dx fs, x = .ref a ∧ H2 a = some (.ins C dx fs) ∧ fs.length < 1000 ∧ D.nx σ (upd H2 a (.ins C dx (putF f y fs)))
theorem ps_fldS {o value : Expr} {pos' : Pos} (c : Cls X.K C) (n : NoAttr X.K C f) (ha : PE X o ta) (hv : PE X value tb) (hs : swapsWith value (some (.Attribute o f pos')) pos.line X.env = pure false) : PS X (.Assign [.Attribute o f pos'] value pos) (sFldS C ta tb f) := by
  refine ⟨fun pins s σ H D I h => ?_⟩
  refine plainObj_wpAny_Assign_Attribute (thn (hv.run pins s σ H _ I h) fun u s1 ⟨y, H1, I1, ry, q⟩ => thn (ha.run pins s1 σ H1 _ I1 q) fun ov s2 ⟨x, H2, I2, rx, a, dx, fs, ex, ea, l, q2⟩ => ?_) hs
  subst ex
  obtain rfl : ov = Value.ref a := rx
  exact setattr_ok I2 ea c n l ry fun s3 I3 => ⟨σ, _, I3, q2⟩
def gFldS (C : Addr) (ta : TE) (f : Str) : TG := fun v σ H Q => ta σ H fun x H1 => ∃ a dx fs, x = .ref a ∧ H1 a = some (.ins C dx fs) ∧ fs.length < 1000 ∧ Q σ (upd H1 a (.ins C dx (putF f v fs)))
theorem pg_fldS {o : Expr} (c : Cls X.K C) (n : NoAttr X.K C f) (ho : PE X o ta) : PG X (.Attribute o f pos) (gFldS C ta f) := by
  refine ⟨fun pins s σ H v u Q I r h => ?_⟩
  rw [assign_Attribute]
  refine wpAny_bind (wpAny_holding (thn (ho.run pins s σ H _ I h) fun ov s1 ⟨x, H1, I1, r1, a, dx, fs, ex, ea, l, q1⟩ => ?_))
  subst ex
  obtain rfl : ov = Value.ref a := r1
  refine wpAny_bind (wpAny_standAt (wpAny_bind (wpAny_holding (setattr_ok I1 ea c n l r fun s3 I3 => ?_))))
  exact wpAny_release ⟨σ, _, I3, q1⟩
end
end K5
set_option maxHeartbeats 4000000
namespace PySem
open PyProof.Rows PySem.F
theorem ext_lt (l : Addr) (items : Array Value) (n : Nat) (b : Addr) (items2 : Array Value) (n2 : Nat) (d2 : Option Addr) (sl2 : Array (Option Value)) (hs0 : ¬(!items.isEmpty && Builtin.List.listTooLong (items.size + items2.size)) = true) (hs1 : items.size ≤ sizeLine) (hs2 : items.size + items2.size ≤ sizeLine + 1) :
    Meets (Builtin.«list.extend» ⟨[.ref l, .ref b], []⟩) (fun _ R s => s.heap.get? l = some { cls := .type "list", dict := none, data := .seq items n, slots := #[] } ∧ s.heap.get? b = some { cls := .type "tuple", dict := d2, data := .seq items2 n2, slots := sl2 } ∧ R (.ok (.ret Value.none)) { s with heap := s.heap.update l (Obj.mapSeq fun x => x ++ items2), toks := s.toks }) :=
  .of_wp fun prog w A R s h => by
    obtain ⟨hp, g, d, tk, os⟩ := s; obtain ⟨hl, hb, h⟩ := h; have f1 := AutoSeq1.idx_int; have f2 := AutoSeq1.sub_tuple_tuple; have f3 := AutoSeq1.sub_list_list; have f4 := AutoSeq1.sub_tuple_list; have f5 := AutoSeq1.sub_list_tuple;
    have hz' : (items ++ items2).size ≤ sizeLine + 1 := by rw [Array.size_append]; exact hs2
    wp_walk using (wpAny_updateSeq hl rfl (hz := hs1) (_hz' := hz')), AutoSeq1.wpAny_loadPart' hl, AutoSeq1.wpAny_loadPart' hb; exact ⟨_, rfl, h⟩
end PySem
namespace K5
open PySem PySem.Spec PyProof.Rows L2
/-! ### xs.extend(t), t a tuple -/
def rExtendT : V → List V → Hp → VK → Prop := fun x vs H Q => ∃ l b xs zs, x = .ref l ∧ vs = [.ref b] ∧ H l = some (.lst xs) ∧ H b = some (.tup zs) ∧ xs.length + zs.length ≤ 1000000 ∧ Q .non (upd H l (.lst (xs ++ zs)))
theorem mt_extendT {X : Cx} : MtR X "list.extend" rExtendT := by
  intro pins s σ H x vs v us Q I rx rv h
  obtain ⟨l, b, xs, zs, rfl, rfl, hH, hB, hz, q⟩ := h
  cases rx
  obtain ⟨u, rfl, ru⟩ := vals1 rv
  cases ru
  obtain ⟨its, n, r, e, hl⟩ := I.lst hH
  obtain ⟨z2, its2, r2, ⟨⟨c2, d2, dt2, sl2⟩, e2, hc2, n2, hd2⟩⟩ := (show ObjOk X.prog X.w H s.heap b (.tup zs) from I.hok b _ hB)
  simp only at hc2 hd2
  subst hc2 hd2
  have l1 := r.length
  have l2 := r2.length
  have hz : xs.length + zs.length ≤ sizeLine := line_of hz
  have hsz : its.toArray.size + its2.toArray.size ≤ sizeLine := by rw [List.size_toArray, List.size_toArray]; omega
  have hlong : ¬ (!its.toArray.isEmpty && Builtin.List.listTooLong (its.toArray.size + its2.toArray.size)) = true := by
    rw [notLongL hsz, Bool.and_false]
    exact Bool.false_ne_true
  refine call_meets F.slot_list_extend ⟨_, e, rfl⟩ F.entry_list_extend (F.args_list_extend_2 _ _)
    (ext_lt l its.toArray n b its2.toArray n2 d2 sl2 hlong (by rw [List.size_toArray]; omega) (by omega)) ⟨e, e2, ?_⟩
  refine ⟨.non, _, I.lset (its' := its ++ its2) hH e (by simp) (r.append r2) ?_, rfl, q⟩
  rw [List.length_append]
  omega
end K5
namespace K5M
def lexLe (p q : Int × Int) : Bool := decide (p.1 < q.1 ∨ (p.1 = q.1 ∧ p.2 ≤ q.2))
def ranksOf (t : Int) (ws : List Int) : List (Int × Int) := (ws.zipIdx.map fun p => ((p.2 : Int), p.1)).map fun p => (0 - t * p.2 % ws.sum, p.1)
def step (f : List Int) (p : Int × Int) : List Int := f.set p.2.toNat (f.getD p.2.toNat 0 + 1)
def bump (f : List Int) (ps : List (Int × Int)) : List Int := ps.foldl step f
def baseOf (t : Int) (ws : List Int) : List Int := ws.map fun w => t * w / ws.sum
def leftOf (t : Int) (ws : List Int) : Int := t - (baseOf t ws).sum
def sortedOf (t : Int) (ws : List Int) : List (Int × Int) := (ranksOf t ws).mergeSort lexLe
def shareOut (t : Int) (ws : List Int) : List Int := bump (baseOf t ws) ((sortedOf t ws).take (leftOf t ws).toNat)

theorem lexLe_iff {p q : Int × Int} : lexLe p q = true ↔ p.1 < q.1 ∨ (p.1 = q.1 ∧ p.2 ≤ q.2) := by unfold lexLe; simp
theorem lex_trans (a b c : Int × Int) (h1 : lexLe a b = true) (h2 : lexLe b c = true) : lexLe a c = true := by
  rw [lexLe_iff] at *
  omega
theorem lex_total (a b : Int × Int) : (lexLe a b || lexLe b a) = true := by
  rw [Bool.or_eq_true, lexLe_iff, lexLe_iff]
  omega
theorem sorted_sorted (t : Int) (ws : List Int) : (sortedOf t ws).Pairwise fun a b => lexLe a b = true := List.pairwise_mergeSort lex_trans lex_total _
theorem sorted_perm (t : Int) (ws : List Int) : (sortedOf t ws).Perm (ranksOf t ws) := List.mergeSort_perm _ _
theorem sorted_uniq {t : Int} {ws : List Int} {ps : List (Int × Int)} (h : ps.Pairwise fun a b => lexLe a b = true) (hp : ps.Perm (ranksOf t ws)) : ps = sortedOf t ws := by
  refine List.Perm.eq_of_pairwise (le := fun a b => lexLe a b = true) (fun a b _ _ h1 h2 => ?_) h (sorted_sorted t ws) (hp.trans (sorted_perm t ws).symm)
  rw [lexLe_iff] at *
  exact Prod.ext (by omega) (by omega)

/-! sums -/
theorem sum_perm {l m : List Int} (h : l.Perm m) : l.sum = m.sum := by
  induction h with
  | nil => rfl
  | cons x _ ih => simp only [List.sum_cons, ih]
  | swap x y l => simp only [List.sum_cons]; omega
  | trans _ _ a b => exact a.trans b
theorem sum_add {α : Type} (f g : α → Int) : ∀ l : List α, (l.map fun x => f x + g x).sum = (l.map f).sum + (l.map g).sum
  | [] => rfl
  | a :: l => by simp only [List.map_cons, List.sum_cons, sum_add f g l]; omega
theorem sum_mul {α : Type} (c : Int) (f : α → Int) : ∀ l : List α, (l.map fun x => c * f x).sum = c * (l.map f).sum
  | [] => by simp
  | a :: l => by simp only [List.map_cons, List.sum_cons, sum_mul c f l, Int.mul_add]
theorem sum_le {α : Type} {f : α → Int} {c : Int} : ∀ {l : List α}, (∀ x ∈ l, f x ≤ c) → (l.map f).sum ≤ l.length * c
  | [], _ => by simp
  | a :: l, h => by
    have h1 := h a List.mem_cons_self
    have h2 := sum_le (l := l) (c := c) fun x hx => h x (List.mem_cons_of_mem _ hx)
    simp only [List.map_cons, List.sum_cons, List.length_cons]
    have e : ((l.length + 1 : Nat) : Int) * c = l.length * c + c := by rw [Int.natCast_add, Int.add_mul]; simp
    omega
theorem sum_nonneg {l : List Int} (h : ∀ x ∈ l, 0 ≤ x) : 0 ≤ l.sum := by
  induction l with
  | nil => simp
  | cons a l ih =>
    have h1 := h a List.mem_cons_self
    have h2 := ih fun x hx => h x (List.mem_cons_of_mem _ hx)
    simp only [List.sum_cons]; omega
theorem sum_set : ∀ {l : List Int} {i : Nat} {x : Int}, l[i]? = some x → ∀ y, (l.set i y).sum = l.sum - x + y
  | [], i, x, h, _ => by simp at h
  | a :: l, 0, x, h, y => by
    have e : a = x := by simpa using h
    subst e
    simp only [List.set_cons_zero, List.sum_cons]; omega
  | a :: l, i + 1, x, h, y => by
    have h : l[i]? = some x := by simpa using h
    simp only [List.set_cons_succ, List.sum_cons, sum_set h y]; omega
/-! bump -/
theorem step_len (f : List Int) (p : Int × Int) : (step f p).length = f.length := by unfold step; rw [List.length_set]
theorem bump_len : ∀ (ps : List (Int × Int)) (f : List Int), (bump f ps).length = f.length
  | [], _ => rfl
  | p :: ps, f => by
    show (bump (step f p) ps).length = _
    rw [bump_len ps, step_len]
theorem bump_sum : ∀ (ps : List (Int × Int)) (f : List Int), (∀ p ∈ ps, p.2.toNat < f.length) → (bump f ps).sum = f.sum + ps.length
  | [], _, _ => by show _ = _ + (0 : Int); simp [bump]
  | p :: ps, f, h => by
    show (bump (step f p) ps).sum = _
    have hl := h p List.mem_cons_self
    rw [bump_sum ps _ fun q hq => by rw [step_len]; exact h q (List.mem_cons_of_mem _ hq)]
    have e : f[p.2.toNat]? = some (f.getD p.2.toNat 0) := by rw [List.getElem?_eq_getElem hl, List.getD_eq_getElem?_getD, List.getElem?_eq_getElem hl]; rfl
    have e2 : (step f p).sum = f.sum + 1 := by
      unfold step
      rw [sum_set e]; omega
    rw [e2, List.length_cons]; omega
theorem bump_out : ∀ (ps : List (Int × Int)) (f : List Int) (i : Nat), (∀ p ∈ ps, p.2.toNat ≠ i) → (bump f ps)[i]? = f[i]?
  | [], _, _, _ => rfl
  | p :: ps, f, i, h => by
    show (bump (step f p) ps)[i]? = _
    rw [bump_out ps _ i fun q hq => h q (List.mem_cons_of_mem _ hq)]
    unfold step
    rw [List.getElem?_set_ne (h p List.mem_cons_self)]
theorem bump_in : ∀ (ps : List (Int × Int)) (f : List Int) (i : Nat) (x : Int), (ps.map fun p => p.2.toNat).Nodup → (∃ p ∈ ps, p.2.toNat = i) → f[i]? = some x → (bump f ps)[i]? = some (x + 1)
  | [], _, _, _, _, h, _ => by obtain ⟨p, hp, _⟩ := h; cases hp
  | p :: ps, f, i, x, nd, h, hx => by
    show (bump (step f p) ps)[i]? = _
    rw [List.map_cons, List.nodup_cons] at nd
    by_cases e : p.2.toNat = i
    · rw [bump_out ps _ i fun q hq z => nd.1 (by rw [e, ← z]; exact List.mem_map_of_mem hq)]
      unfold step
      rw [e, List.getElem?_set_self (List.getElem?_eq_some_iff.mp hx).1, List.getD_eq_getElem?_getD, hx]; rfl
    · refine bump_in ps _ i x nd.2 ?_ (by unfold step; rw [List.getElem?_set_ne e]; exact hx)
      obtain ⟨q, hq, z⟩ := h
      rcases List.mem_cons.mp hq with y | y
      · subst y; exact absurd z e
      · exact ⟨q, y, z⟩
/-! the shares -/
section
variable {t : Int} {ws : List Int}
theorem base_len : (baseOf t ws).length = ws.length := by unfold baseOf; rw [List.length_map]
theorem ranks_len : (ranksOf t ws).length = ws.length := by unfold ranksOf; simp
theorem share_len : (shareOut t ws).length = ws.length := by unfold shareOut; rw [bump_len, base_len]
theorem ranks_mem {p : Int × Int} (h : p ∈ ranksOf t ws) : ∃ (i : Nat) (w : Int), ws[i]? = some w ∧ p = (0 - t * w % ws.sum, (i : Int)) := by
  unfold ranksOf at h
  rw [List.map_map] at h
  obtain ⟨q, hq, rfl⟩ := List.mem_map.mp h
  obtain ⟨j, hj⟩ := List.mem_iff_getElem?.mp hq
  rw [List.getElem?_zipIdx] at hj
  cases e : ws[j]? with
  | none => rw [e] at hj; cases hj
  | some w =>
    rw [e] at hj
    cases hj
    exact ⟨j, w, e, by simp⟩
theorem mem_ranks {i : Nat} {w : Int} (h : ws[i]? = some w) : (0 - t * w % ws.sum, (i : Int)) ∈ ranksOf t ws := by
  unfold ranksOf
  rw [List.map_map]
  refine List.mem_map.mpr ⟨(w, i), ?_, rfl⟩
  refine List.mem_iff_getElem?.mpr ⟨i, ?_⟩
  rw [List.getElem?_zipIdx, h]; simp
theorem ranks_nodup : ((ranksOf t ws).map fun p => p.2.toNat).Nodup := by
  have e : (ranksOf t ws).map (fun p => p.2.toNat) = List.range ws.length := by
    unfold ranksOf
    rw [List.map_map, List.map_map]
    show ws.zipIdx.map (fun p => Int.toNat (p.2 : Int)) = _
    have := List.zipIdx_map_snd 0 ws
    rw [List.range_eq_range', ← this]
    exact List.map_congr_left fun a _ => by simp
  rw [e]
  exact List.nodup_range
theorem rem_eq (w : Int) (hS : 0 < ws.sum) : t * w = ws.sum * (t * w / ws.sum) + t * w % ws.sum := (Int.mul_ediv_add_emod _ _).symm
theorem sum_scaled (c : Int) : (ws.map fun w => c * w).sum = c * ws.sum := by
  have := sum_mul c (fun w : Int => w) ws
  simpa using this
theorem left_eq (hS : 0 < ws.sum) : ws.sum * leftOf t ws = (ws.map fun w => t * w % ws.sum).sum := by
  have h1 : (ws.map fun w => t * w).sum = (ws.map fun w => ws.sum * (t * w / ws.sum)).sum + (ws.map fun w => t * w % ws.sum).sum := by
    rw [← sum_add]
    congr 1
    exact List.map_congr_left fun w _ => rem_eq w hS
  rw [sum_scaled] at h1
  have h2 : (ws.map fun w => ws.sum * (t * w / ws.sum)).sum = ws.sum * (baseOf t ws).sum := sum_mul _ _ _
  unfold leftOf
  rw [Int.mul_sub, Int.mul_comm ws.sum t]
  omega
theorem ranks_sum (hS : 0 < ws.sum) : ((ranksOf t ws).map (·.1)).sum = -(ws.sum * leftOf t ws) := by
  rw [left_eq hS]
  unfold ranksOf
  rw [List.map_map, List.map_map]
  refine Eq.trans (b := ((ws.zipIdx.map Prod.fst).map fun w => -1 * (t * w % ws.sum)).sum) ?_ ?_
  · rw [List.map_map]
    congr 1
    refine List.map_congr_left fun a _ => ?_
    simp only [Function.comp]
    omega
  · rw [List.zipIdx_map_fst, sum_mul]
    omega
theorem left_lo (hS : 0 < ws.sum) : 0 ≤ leftOf t ws := by
  have h := left_eq (t := t) hS
  have h2 : 0 ≤ (ws.map fun w => t * w % ws.sum).sum := sum_nonneg fun x hx => by
    obtain ⟨w, _, rfl⟩ := List.mem_map.mp hx
    exact Int.emod_nonneg _ (by omega)
  rw [← h] at h2
  exact Int.nonneg_of_mul_nonneg_right (by rw [Int.mul_comm] at h2; rw [Int.mul_comm]; exact h2) hS
theorem left_hi (hS : 0 < ws.sum) : leftOf t ws ≤ ws.length := by
  have h := left_eq (t := t) hS
  have h2 : (ws.map fun w => t * w % ws.sum).sum ≤ ws.length * ws.sum := sum_le fun w _ => Int.le_of_lt (Int.emod_lt_of_pos _ hS)
  rw [← h, Int.mul_comm] at h2
  exact Int.le_of_mul_le_mul_right h2 hS
theorem sorted_len : (sortedOf t ws).length = ws.length := by rw [(sorted_perm t ws).length_eq, ranks_len]
theorem sorted_mem {p : Int × Int} (h : p ∈ sortedOf t ws) : ∃ (i : Nat) (w : Int), ws[i]? = some w ∧ p = (0 - t * w % ws.sum, (i : Int)) := ranks_mem ((sorted_perm t ws).mem_iff.mp h)
theorem share_sum (hS : 0 < ws.sum) : (shareOut t ws).sum = t := by
  unfold shareOut
  rw [bump_sum _ _ fun p hp => ?_]
  · have h1 := left_lo (t := t) hS
    have h2 := left_hi (t := t) hS
    rw [List.length_take, sorted_len, Nat.min_eq_left (by omega), Int.toNat_of_nonneg h1]
    unfold leftOf; omega
  · obtain ⟨i, w, h, rfl⟩ := sorted_mem (List.mem_of_mem_take hp)
    rw [base_len]
    simpa using (List.getElem?_eq_some_iff.mp h).1
/-- what is bumped has a rest -/
theorem bumped_rest (hS : 0 < ws.sum) {p : Int × Int} (hp : p ∈ (sortedOf t ws).take (leftOf t ws).toNat) : p.1 < 0 := by
  obtain ⟨j, hj⟩ := List.mem_iff_getElem?.mp hp
  rw [List.getElem?_take] at hj
  by_cases hjk : j < (leftOf t ws).toNat
  · rw [if_pos hjk] at hj
    refine Int.lt_of_not_ge fun hge => ?_
    have hle : ∀ q ∈ sortedOf t ws, -(ws.sum - 1) ≤ q.1 := fun q hq => by
      obtain ⟨i, w, _, rfl⟩ := sorted_mem hq
      have := Int.emod_lt_of_pos (t * w) hS
      show _ ≤ 0 - _
      omega
    have hL : sortedOf t ws = (sortedOf t ws).take j ++ (sortedOf t ws).drop j := (List.take_append_drop _ _).symm
    have hjl := (List.getElem?_eq_some_iff.mp hj).1
    have hs := sorted_sorted t ws
    have hdrop : ∀ q ∈ (sortedOf t ws).drop j, 0 ≤ q.1 := by
      have e : (sortedOf t ws)[j] = p := (List.getElem?_eq_some_iff.mp hj).2
      have ed : (sortedOf t ws).drop j = p :: (sortedOf t ws).drop (j + 1) := by rw [List.drop_eq_getElem_cons hjl, e]
      intro q hq
      rw [hL, ed] at hs
      rw [ed] at hq
      rcases List.mem_cons.mp hq with z | z
      · rw [z]; exact hge
      · have := (List.pairwise_cons.mp (List.pairwise_append.mp hs).2.1).1 q z
        rw [lexLe_iff] at this
        omega
    have h0 : ((sortedOf t ws).map (·.1)).sum = -(ws.sum * leftOf t ws) := by rw [sum_perm ((sorted_perm t ws).map _), ranks_sum hS]
    have h1 : 0 ≤ (((sortedOf t ws).drop j).map (·.1)).sum := sum_nonneg fun x hx => by
      obtain ⟨q, hq, rfl⟩ := List.mem_map.mp hx
      exact hdrop q hq
    have h2 : (((sortedOf t ws).take j).map fun q => -1 * q.1).sum ≤ ((sortedOf t ws).take j).length * (ws.sum - 1) := sum_le fun q hq => by
      have := hle q (List.mem_of_mem_take hq)
      omega
    rw [sum_mul (-1) (fun q : Int × Int => q.1)] at h2
    have h3 : ((sortedOf t ws).map (·.1)).sum = (((sortedOf t ws).take j).map (·.1)).sum + (((sortedOf t ws).drop j).map (·.1)).sum := by
      rw [← List.sum_append, ← List.map_append, List.take_append_drop]
    rw [List.length_take, Nat.min_eq_left (by omega)] at h2
    have h4 : (j : Int) ≤ leftOf t ws - 1 := by omega
    have h5 : (j : Int) * (ws.sum - 1) ≤ (leftOf t ws - 1) * (ws.sum - 1) := Int.mul_le_mul_of_nonneg_right h4 (by omega)
    have h6 : (leftOf t ws - 1) * (ws.sum - 1) = ws.sum * leftOf t ws - leftOf t ws - ws.sum + 1 := by
      rw [Int.sub_mul, Int.mul_sub, Int.mul_comm (leftOf t ws) ws.sum]; omega
    have h7 : 0 < leftOf t ws := by omega
    omega
  · rw [if_neg hjk] at hj
    cases hj
/-- each share, less than one off -/
theorem share_at (hS : 0 < ws.sum) {i : Nat} {w : Int} (h : ws[i]? = some w) : ∃ f, (shareOut t ws)[i]? = some f ∧ t * w / ws.sum ≤ f ∧ -ws.sum < f * ws.sum - t * w ∧ f * ws.sum - t * w < ws.sum := by
  have hb : (baseOf t ws)[i]? = some (t * w / ws.sum) := by unfold baseOf; rw [List.getElem?_map, h]; rfl
  have hr := rem_eq (t := t) w hS
  have h0 := Int.emod_nonneg (t * w) (b := ws.sum) (by omega)
  have h1 := Int.emod_lt_of_pos (t * w) hS
  have nd : (((sortedOf t ws).take (leftOf t ws).toNat).map fun p => p.2.toNat).Nodup :=
    ((((sorted_perm t ws).map _).nodup_iff).mpr ranks_nodup).sublist ((List.take_sublist _ _).map _)
  by_cases hin : ∃ p ∈ (sortedOf t ws).take (leftOf t ws).toNat, p.2.toNat = i
  · refine ⟨t * w / ws.sum + 1, bump_in _ _ i _ nd hin hb, by omega, ?_, ?_⟩
    · rw [Int.add_mul, Int.mul_comm (t * w / ws.sum)]; omega
    · obtain ⟨p, hp, e⟩ := hin
      have hneg := bumped_rest hS hp
      obtain ⟨j, w', hj, rfl⟩ := sorted_mem (List.mem_of_mem_take hp)
      have e : j = i := by simpa using e
      subst e
      rw [h] at hj
      cases hj
      have hneg : 0 - t * w % ws.sum < 0 := hneg
      rw [Int.add_mul, Int.mul_comm (t * w / ws.sum)]; omega
  · refine ⟨t * w / ws.sum, ?_, Int.le_refl _, ?_, ?_⟩
    · unfold shareOut
      rw [bump_out _ _ i fun p hp e => hin ⟨p, hp, e⟩, hb]
    · rw [Int.mul_comm (t * w / ws.sum)]; omega
    · rw [Int.mul_comm (t * w / ws.sum)]; omega
theorem share_nonneg (hS : 0 < ws.sum) (ht : 0 ≤ t) (hw : ∀ w ∈ ws, 0 ≤ w) : ∀ f ∈ shareOut t ws, 0 ≤ f := fun f hf => by
  obtain ⟨i, hi⟩ := List.mem_iff_getElem?.mp hf
  have hl := (List.getElem?_eq_some_iff.mp hi).1
  rw [share_len] at hl
  obtain ⟨f', h1, h2, _⟩ := share_at (t := t) hS (List.getElem?_eq_getElem hl)
  rw [hi] at h1
  cases h1
  have := Int.ediv_nonneg (Int.mul_nonneg ht (hw _ (List.getElem_mem hl))) (Int.le_of_lt hS)
  omega
end
end K5M
set_option maxHeartbeats 4000000
namespace K5
open PySem PySem.Spec PyProof.Rows L2
/-! ### sorted(pairs of ints) -/
def keyOf (H : Hp) : V → Int × Int
  | .ref t => (match H t with
    | some (.tup [.int i, .int j]) => (i, j)
    | _ => (0, 0))
  | _ => (0, 0)
theorem keyOf_ref {H : Hp} {t : Addr} {i j : Int} (h : H t = some (.tup [.int i, .int j])) : keyOf H (.ref t) = (i, j) := by
  show (match H t with | some (.tup [.int i, .int j]) => (i, j) | _ => (0, 0)) = _
  rw [h]
theorem pr_keys {H : Hp} : ∀ {xs : List V} {rs : List (Int × Int)}, Paired (rP rI rI H) xs rs → xs.map (keyOf H) = rs ∧ ∀ x ∈ xs, ∃ t, x = .ref t ∧ H t = some (.tup [.int (keyOf H x).1, .int (keyOf H x).2])
  | _, _, .nil => ⟨rfl, fun x h => by cases h⟩
  | _, _, .cons (b := y) r t => by
    obtain ⟨h1, h2⟩ := pr_keys t
    obtain ⟨a, p, q, rfl, ha, rfl, rfl⟩ := r
    have e := keyOf_ref ha
    refine ⟨by rw [List.map_cons, h1, e], fun x hx => ?_⟩
    rcases List.mem_cons.mp hx with z | z
    · subst z
      exact ⟨a, rfl, by rw [e]; exact ha⟩
    · exact h2 x z
theorem keys_pr {H : Hp} : ∀ {xs : List V}, (∀ x ∈ xs, ∃ t, x = .ref t ∧ H t = some (.tup [.int (keyOf H x).1, .int (keyOf H x).2])) → Paired (rP rI rI H) xs (xs.map (keyOf H))
  | [], _ => .nil
  | x :: xs, h => by
    obtain ⟨t, e, ht⟩ := h x List.mem_cons_self
    exact .cons ⟨t, _, _, e, ht, rfl, rfl⟩ (keys_pr fun y hy => h y (List.mem_cons_of_mem _ hy))
def rSortedPS : List V → Hp → VK → Prop := fun vs H Q => ∃ a xs, ∃ rs : List (Int × Int), vs = [.ref a] ∧ H a = some (.lst xs) ∧ Paired (rP rI rI H) xs rs ∧
  ∀ p ys ss H', Same H H' → H p = none → H' p = some (.lst ys) → Paired (rP rI rI H') ys ss → (ss.Pairwise fun a b => K5M.lexLe a b = true) → ss.Perm rs → Q (.ref p) H'
theorem cr_sortedPS {X : Cx} : CallR X (.builtin "sorted") rSortedPS := CallR.weak cr_sortedPO fun _ H _ ⟨a, xs, rs, e, h, pr, q⟩ => by
  obtain ⟨h1, h2⟩ := pr_keys pr
  refine ⟨a, xs, keyOf H, e, SqL.of h, h2, fun ys p hs hb hp => ?_⟩
  have hy : ∀ y ∈ ys, ∃ t, y = .ref t ∧ H t = some (.tup [.int (keyOf H y).1, .int (keyOf H y).2]) := fun y hy => h2 y (hb.perm.mem_iff.mp hy)
  have s := Same.new (o := .lst ys) hp
  refine q p ys (ys.map (keyOf H)) _ s hp upd_same (mnL s.tk (keys_pr hy)) ?_ (by rw [← h1]; exact hb.perm.map _)
  rw [List.pairwise_map]
  refine hs.imp fun {x y} h => ?_
  have := SrtO.lexB_no.mp h
  rw [K5M.lexLe_iff]
  omega
/-! ### dict(pairs), the keys texts that differ -/
def rKV {α : Type} (A : Rel α) (H : Hp) (kv : Key × V) (d : Str × α) : Prop := kv.1 = Sum.inr d.1 ∧ A H kv.2 d.2
theorem put_new {kvs : List (Key × V)} {k : Key} {v : V} (h : k ∉ kvs.map (·.1)) : putK kvs k v = kvs ++ [(k, v)] := by
  unfold putK
  rw [if_neg]
  intro z
  rw [List.any_eq_true] at z
  obtain ⟨x, hx, e⟩ := z
  exact h (List.mem_map.mpr ⟨x, hx, of_decide_eq_true e⟩)
theorem merge_nodup : ∀ {more kvs : List (Key × V)}, ((kvs ++ more).map (·.1)).Nodup → mergeK kvs more = kvs ++ more
  | [], kvs, _ => by rw [List.append_nil]; rfl
  | m :: more, kvs, h => by
    show mergeK (putK kvs m.1 m.2) more = _
    have hn : m.1 ∉ kvs.map (·.1) := fun z => by
      rw [List.map_append, List.map_cons, List.nodup_append] at h
      exact h.2.2 _ z _ List.mem_cons_self rfl
    rw [put_new hn, merge_nodup (kvs := kvs ++ [m]) (by simpa using h)]
    simp
def rDictS : List V → Hp → VK → Prop := fun vs H Q => ∃ (α : Type) (A : Rel α) (_ : Mon A) (a : Addr) (xs : List V) (ds : List (Str × α)), vs = [.ref a] ∧ H a = some (.lst xs) ∧ Paired (rP rS A H) xs ds ∧ (ds.map (·.1)).Nodup ∧
  ∀ p kvs H', H p = none → Same H H' → H' p = some (.dK kvs) → Paired (rKV A H') kvs ds → Q (.ref p) H'
theorem pr_refs {α : Type} {A : Rel α} {H : Hp} : ∀ {xs : List V} {ds : List (Str × α)}, Paired (rP rS A H) xs ds → ∃ (ps : List Addr) (kvs : List (Key × V)), xs = ps.map V.ref ∧ Paired (fun p kv => H p = some (.tup [kV kv.1, kv.2])) ps kvs ∧ Paired (rKV A H) kvs ds
  | _, _, .nil => ⟨[], [], rfl, .nil, .nil⟩
  | _, _, .cons (b := y) r t => by
    obtain ⟨ps, kvs, e, p1, p2⟩ := pr_refs t
    obtain ⟨a, p, q, rfl, ha, rfl, hq⟩ := r
    exact ⟨a :: ps, (Sum.inr y.1, q) :: kvs, by rw [e, List.map_cons], .cons ha p1, .cons ⟨rfl, hq⟩ p2⟩
theorem kv_keys {α : Type} {A : Rel α} {H : Hp} : ∀ {kvs : List (Key × V)} {ds : List (Str × α)}, Paired (rKV A H) kvs ds → kvs.map (·.1) = ds.map fun d => Sum.inr d.1
  | _, _, .nil => rfl
  | _, _, .cons r t => by rw [List.map_cons, List.map_cons, r.1, kv_keys t]
theorem kv_mono {α : Type} {A : Rel α} [Mon A] {H H' : Hp} (s : Tk H H') : ∀ {kvs : List (Key × V)} {ds : List (Str × α)}, Paired (rKV A H) kvs ds → Paired (rKV A H') kvs ds
  | _, _, .nil => .nil
  | _, _, .cons r t => .cons ⟨r.1, Mon.go s r.2⟩ (kv_mono s t)
theorem inr_nodup {l : List Str} (h : l.Nodup) : (l.map fun d => (Sum.inr d : Key)).Nodup := by
  induction h with
  | nil => exact List.nodup_nil
  | cons h t ih =>
    rw [List.map_cons, List.nodup_cons]
    refine ⟨fun z => ?_, ih⟩
    obtain ⟨y, hy, e⟩ := List.mem_map.mp z
    injection e with e
    exact h y hy e.symm
theorem call_dictS {X : Cx} (hc : X.calm = true) : CallR X (.type "dict") rDictS := CallR.weak (call_dictP hc) fun _ H _ ⟨α, A, _, a, xs, ds, e, h, pr, nd, q⟩ => by
  obtain ⟨ps, kvs, ex, p1, p2⟩ := pr_refs pr
  subst ex
  refine ⟨a, ps, kvs, e, SqL.of h, pr_imp p1 fun _ _ z => SqT.of z, fun p hp => ?_⟩
  have ek := kv_keys p2
  have hk : (kvs.map (·.1)).Nodup := by
    rw [ek]
    have := inr_nodup nd
    rw [List.map_map] at this
    exact this
  rw [merge_nodup (kvs := []) (by simpa using hk), List.nil_append]
  have s := Same.new (o := .dK kvs) hp
  exact q p kvs _ hp s upd_same (kv_mono s.tk p2)
theorem kv_find {α : Type} {A : Rel α} {H : Hp} : ∀ {kvs : List (Key × V)} {ds : List (Str × α)} {d : Str × α}, Paired (rKV A H) kvs ds → (ds.map (·.1)).Nodup → d ∈ ds → ∃ v, valV kvs (Sum.inr d.1) = some v ∧ A H v d.2
  | _, _, _, .nil, _, h => by cases h
  | _, _, d, .cons (b := y) r t, nd, h => by
    rw [List.map_cons, List.nodup_cons] at nd
    by_cases e : y.1 = d.1
    · have e2 : d = y := by
        rcases List.mem_cons.mp h with z | z
        · exact z
        · exact absurd (List.mem_map.mpr ⟨d, z, e.symm⟩) nd.1
      subst e2
      exact ⟨_, valV_pos r.1, r.2⟩
    · have h2 : d ∈ _ := (List.mem_cons.mp h).resolve_left fun z => e (by rw [z])
      obtain ⟨v, h3, h4⟩ := kv_find t nd.2 h2
      refine ⟨v, ?_, h4⟩
      rw [valV_neg (fun z => e ?_)]
      · exact h3
      · rw [r.1] at z
        injection z
theorem kv_none {α : Type} {A : Rel α} {H : Hp} : ∀ {kvs : List (Key × V)} {ds : List (Str × α)} {n : Str}, Paired (rKV A H) kvs ds → n ∉ ds.map (·.1) → valV kvs (Sum.inr n) = none
  | _, _, _, .nil, _ => rfl
  | _, _, n, .cons (b := y) r t, h => by
    rw [valV_neg (fun z => h ?_)]
    · exact kv_none t fun z => h (List.mem_cons_of_mem _ z)
    · rw [r.1] at z
      injection z with z
      rw [← z]
      exact List.mem_cons_self
end K5
set_option maxHeartbeats 4000000
namespace K5
open PySem PySem.Spec PyProof.Rows L2
/-- d.update(e), e another dict -/
def rUpdD : V → List V → Hp → VK → Prop := fun x vs H Q => ∃ d o kvs more, x = .ref d ∧ vs = [.ref o] ∧ H d = some (.dK kvs) ∧ H o = some (.dK more) ∧ d ≠ o ∧ kvs.length + more.length ≤ 1000000 ∧ Q .non (upd H d (.dK (mergeK kvs more)))
theorem mt_updateD {X : Cx} : MtR X "dict.update" rUpdD := by
  intro pins s σ H x vs v us Q I rx rv h
  obtain ⟨d, o, kvs, more, rfl, rfl, hd, ho, hne, hz, q⟩ := h
  cases rx
  obtain ⟨u, rfl, ru⟩ := vals1 rv
  cases ru
  obtain ⟨z1, y1, ks, rel1, dd1⟩ := dk_of I.hok hd
  obtain ⟨z2, y2, ms, rel2, dd2⟩ := dk_of I.hok ho
  have hl : (mergeK kvs more).length ≤ sizeLine := Nat.le_trans (length_mergeK more kvs) (line_of hz)
  refine call_meetsIn PySem.F.slot_dict_update dd1.typeIs PySem.F.entry_dict_update (PySem.F.args_dict_update_2 _ _) (meets_dict_update (mixKind X.prog X.w) d o hne y2)
    ⟨ks, ms, dd1, dd2, by rw [← rel1.length, ← rel2.length]; exact line_of hz, fun h' dd' _ hs => ?_⟩
  have he : ∃ q, h'.get? d = some q := let ⟨q, _, _, hq, _⟩ := dd'; ⟨q, hq⟩
  exact ⟨.non, _, d_write I (by rw [hd]; exact True.intro) hs he (dk_new hl y1 (KV.merge rel2 rel1) dd'), rfl, q⟩
/-! ### keys -/
theorem putK_keys (kvs : List (Key × V)) (k : Key) (v : V) (nd : (kvs.map (·.1)).Nodup) : ((putK kvs k v).map (·.1)).Nodup ∧ ∀ x ∈ (putK kvs k v).map (·.1), x = k ∨ x ∈ kvs.map (·.1) := by
  unfold putK
  by_cases h : (kvs.any fun kv => decide (kv.1 = k)) = true
  · rw [if_pos h]
    have e : (kvs.map fun kv => if kv.1 = k then (kv.1, v) else kv).map (·.1) = kvs.map (·.1) := by
      rw [List.map_map]
      refine List.map_congr_left fun a _ => ?_
      show (if a.1 = k then (a.1, v) else a).1 = a.1
      split <;> rfl
    rw [e]
    exact ⟨nd, fun x hx => .inr hx⟩
  · rw [if_neg h]
    have hn : k ∉ kvs.map (·.1) := fun z => by
      obtain ⟨y, hy, e⟩ := List.mem_map.mp z
      exact h (List.any_eq_true.mpr ⟨y, hy, decide_eq_true e⟩)
    rw [List.map_append]
    refine ⟨?_, fun x hx => ?_⟩
    · rw [List.nodup_append]
      exact ⟨nd, by simp, fun a ha b hb => by
        have : b = k := by simpa using hb
        rw [this]
        exact fun z => hn (z ▸ ha)⟩
    · rcases List.mem_append.mp hx with z | z
      · exact .inr z
      · exact .inl (by simpa using z)
theorem mergeK_keys : ∀ (more kvs : List (Key × V)), (kvs.map (·.1)).Nodup → ((mergeK kvs more).map (·.1)).Nodup ∧ ∀ x ∈ (mergeK kvs more).map (·.1), x ∈ more.map (·.1) ∨ x ∈ kvs.map (·.1)
  | [], kvs, nd => ⟨nd, fun x hx => .inr hx⟩
  | p :: r, kvs, nd => by
    obtain ⟨h1, h2⟩ := putK_keys kvs p.1 p.2 nd
    obtain ⟨h3, h4⟩ := mergeK_keys r (putK kvs p.1 p.2) h1
    refine ⟨h3, fun x hx => ?_⟩
    rcases h4 x hx with z | z
    · exact .inl (List.mem_cons_of_mem _ z)
    · rcases h2 x z with y | y
      · exact .inl (by rw [y]; exact List.mem_cons_self)
      · exact .inr y
theorem nodup_le {α : Type} [DecidableEq α] : ∀ {l m : List α}, l.Nodup → (∀ x ∈ l, x ∈ m) → l.length ≤ m.length
  | [], _, _, _ => Nat.zero_le _
  | x :: l, m, nd, h => by
    rw [List.nodup_cons] at nd
    have hx := h x List.mem_cons_self
    have := nodup_le (l := l) (m := m.erase x) nd.2 fun y hy => (List.mem_erase_of_ne (fun e => nd.1 (by rw [← e]; exact hy))).mpr (h y (List.mem_cons_of_mem _ hy))
    rw [List.length_erase_of_mem hx] at this
    have := List.length_pos_of_mem hx
    rw [List.length_cons]
    omega
/-! ### heaps: what stays but for one, two -/
def Bar (b d : Addr) (H H' : Hp) : Prop := ∀ a u, a ≠ b → a ≠ d → H a = some u → H' a = some u
theorem Bar.refl {b d : Addr} {H : Hp} : Bar b d H H := fun _ _ _ _ h => h
theorem Bar.trans {b d : Addr} {H H1 H2 : Hp} (x : Bar b d H H1) (y : Bar b d H1 H2) : Bar b d H H2 := fun a u h1 h2 h => y a u h1 h2 (x a u h1 h2 h)
theorem _root_.L2.Same.bar {b d : Addr} {H H' : Hp} (s : Same H H') : Bar b d H H' := fun a u _ _ h => s a u h
theorem Bar.put {b d : Addr} {H : Hp} {o : HO} : Bar b d H (upd H b o) := fun a u h1 _ h => by rw [upd_ne h1]; exact h
theorem Bar.put2 {b d : Addr} {H : Hp} {o : HO} : Bar b d H (upd H d o) := fun a u _ h2 h => by rw [upd_ne h2]; exact h
theorem Bar.tk {b d : Addr} {H H' : Hp} (s : Bar b d H H') (hb : ∀ xs, H b ≠ some (.tup xs)) (hd : ∀ xs, H d ≠ some (.tup xs)) : Tk H H' := fun a xs h =>
  s a _ (fun e => hb xs (by rw [← e]; exact h)) (fun e => hd xs (by rw [← e]; exact h)) h
theorem Bar.same {b d : Addr} {H H1 H' : Hp} (s : Same H H1) (x : Bar b d H1 H') (hb : H b = none) (hd : H d = none) : Same H H' := fun a u h =>
  x a u (ne_of_none h hb) (ne_of_none h hd) (s a u h)
end K5
set_option maxHeartbeats 4000000
namespace K5
open PySem PySem.Spec PyProof.Rows L2
/-- dict(pairs), the keys texts, alike or not -/
def rDictN : List V → Hp → VK → Prop := fun vs H Q => ∃ (α : Type) (A : Rel α) (_ : Mon A) (a : Addr) (xs : List V) (ds : List (Str × α)), vs = [.ref a] ∧ H a = some (.lst xs) ∧ Paired (rP rS A H) xs ds ∧
  ∀ p kvs H', H p = none → Same H H' → H' p = some (.dK kvs) → kvs.length ≤ ds.length → (kvs.map (·.1)).Nodup → (∀ x ∈ kvs.map (·.1), ∃ n ∈ ds.map (·.1), x = Sum.inr n) → Q (.ref p) H'
theorem call_dictN {X : Cx} (hc : X.calm = true) : CallR X (.type "dict") rDictN := CallR.weak (call_dictP hc) fun _ H _ ⟨α, A, _, a, xs, ds, e, h, pr, q⟩ => by
  obtain ⟨ps, kvs, ex, p1, p2⟩ := pr_refs pr
  subst ex
  refine ⟨a, ps, kvs, e, SqL.of h, pr_imp p1 fun _ _ z => SqT.of z, fun p hp => ?_⟩
  have ek := kv_keys p2
  obtain ⟨h1, h2⟩ := mergeK_keys kvs [] List.nodup_nil
  have hl := length_mergeK kvs []
  refine q p (mergeK [] kvs) _ hp (Same.new hp) upd_same (by rw [← pr_len p2]; simpa using hl) h1 fun x hx => ?_
  rcases h2 x hx with z | z
  · rw [ek] at z
    obtain ⟨d, hd, rfl⟩ := List.mem_map.mp z
    exact ⟨d.1, List.mem_map_of_mem hd, rfl⟩
  · cases z
theorem inr_keys : ∀ {l : List Key}, (∀ x ∈ l, ∃ n : Str, x = Sum.inr n) → ∃ ks : List Str, l = ks.map Sum.inr
  | [], _ => ⟨[], rfl⟩
  | x :: l, h => by
    obtain ⟨n, rfl⟩ := h x List.mem_cons_self
    obtain ⟨ks, rfl⟩ := inr_keys (l := l) fun y hy => h y (List.mem_cons_of_mem _ hy)
    exact ⟨n :: ks, rfl⟩
theorem nodup_of_map {α β : Type} {f : α → β} : ∀ {l : List α}, (l.map f).Nodup → l.Nodup
  | [], _ => List.nodup_nil
  | x :: l, h => by
    rw [List.map_cons, List.nodup_cons] at h
    rw [List.nodup_cons]
    exact ⟨fun z => h.1 (List.mem_map_of_mem z), nodup_of_map h.2⟩
/-! ### a dict's values, walked -/
theorem src_vals {α : Type} {A : Rel α} {d : Addr} {o : Obj} {kvs : List (Key × V)} {ds : List α} : Src (Itd d o kvs) (fun H => H d = some (.frz o (.dK kvs)) ∧ Paired (fun kv x => A H kv.2 x) kvs ds) A ds where
  stop := fun H ⟨h, p⟩ => ⟨h, by rw [pr_len p]; exact Nat.le_refl _⟩
  go := fun i H hi ⟨h, p⟩ => ⟨h, by rw [pr_len p]; exact hi⟩
  yld := fun i H x H' d hd ⟨h, p⟩ ⟨e, k, y⟩ => by
    subst e
    obtain ⟨kv, hk, r⟩ := pr_get' p hd
    rw [y] at hk
    cases hk
    exact ⟨Same.refl _, r⟩
theorem ex_pairs {α β : Type} {R : α → β → Prop} : ∀ {l : List α}, (∀ x ∈ l, ∃ y, R x y) → ∃ m, Paired R l m
  | [], _ => ⟨[], .nil⟩
  | x :: l, h => by
    obtain ⟨y, hy⟩ := h x List.mem_cons_self
    obtain ⟨m, hm⟩ := ex_pairs (l := l) fun z hz => h z (List.mem_cons_of_mem _ hz)
    exact ⟨y :: m, .cons hy hm⟩
/-! ### put -/
theorem putK_mem {kvs : List (Key × V)} {k : Key} {v : V} {kv : Key × V} (h : kv ∈ putK kvs k v) : kv ∈ kvs ∨ kv.2 = v := by
  unfold putK at h
  split at h
  · obtain ⟨x, hx, rfl⟩ := List.mem_map.mp h
    split
    · exact .inr rfl
    · exact .inl hx
  · rcases List.mem_append.mp h with z | z
    · exact .inl z
    · rw [List.mem_singleton.mp z]
      exact .inr rfl
theorem putK_old {kvs : List (Key × V)} {k : Key} {v u : V} (h : valV kvs k = some u) : (putK kvs k v).length = kvs.length := by
  unfold putK
  rw [if_pos (by rw [valV_any, h]; rfl), List.length_map]
theorem valV_mem {kvs : List (Key × V)} {k : Key} {v : V} (h : valV kvs k = some v) : ∃ kv ∈ kvs, kv.2 = v := by
  unfold valV at h
  cases q : kvs.find? fun kv => decide (kv.1 = k) with
  | none => rw [q] at h; cases h
  | some kv =>
    rw [q] at h
    exact ⟨kv, List.mem_of_find?_eq_some q, Option.some.inj h⟩
end K5
set_option maxHeartbeats 4000000
namespace K5
open PySem PySem.Spec PyProof.Rows L2
/-- sorted(t), t a tuple of fewer than 64 texts -/
def rSortedTS : List V → Hp → VK → Prop := fun vs H Q => ∃ (a : Addr) (xs : List Str), vs = [V.ref a] ∧ H a = some (.tup (xs.map V.str)) ∧ xs.length < 64 ∧
  ∀ (ys : List Str) (p : Addr) H', Same H H' → ys.Perm xs → sortedS ys = true → H p = none → H' p = some (.lst (ys.map V.str)) → Q (.ref p) H'
theorem cr_sortedTS {X : Cx} : CallR X (.builtin "sorted") rSortedTS := by
  intro pins s σ H vs us Q I r h
  obtain ⟨a, ks, rfl, hs, h64, q⟩ := h
  obtain ⟨its, rv, ⟨o, ho, hc, n, hd⟩, hz⟩ := I.tuple (SqT.of hs)
  rw [Vals.ref1 r]
  have hlen0 := rv.length
  rw [List.length_map] at hlen0
  have hS : StrsAre its ks := rv.strs
  refine Calls.call_function_entry PyProof.Rows.kind_sorted PyProof.Rows.plain_sorted PyProof.Rows.entry_sorted (PyProof.Rows.args_sorted1 _) ?_
  unfold Builtin.«sorted»
  refine wpAny_bind (m := checkCount "sorted" 1 1 _) (wpAny_pure ?_)
  refine wpAny_bind (wpAny_collect_seq a (.inr rfl) ho hc hd (hsz := by rw [List.size_toArray, ← hlen0, sizeLine_eq]; omega) fun h' hk => ?_)
  have I1 : Inv X pins σ H { s with heap := h' } := I.kept (t' := s.toks) hk
  have e0 : its.toArray.toList = its := rfl
  rw [e0]
  refine wpAny_bind (wpAny_newList ?_ (by rw [← hlen0, sizeLine_eq]; omega))
  have hoL : (h'.push (seqObj "list" its.toArray 0)).get? h'.objs.size = some (seqObj "list" its.toArray 0) := Heap.get?_push_size _ rfl
  show wpAny _ _ _ _ _ { s with heap := h'.push (seqObj "list" its.toArray 0) }
  refine wpAny_bind (wpAny_holding (wpAny_call_entry PyProof.Rows.slot_list_sort ⟨_, hoL, rfl⟩ PyProof.Rows.entry_list_sort
    (list_sort_treeK strKind_oneLt (s := { s with heap := h'.push (seqObj "list" its.toArray 0) }) hoL hS.keysOf (fun v₁ v₂ rest e => keyKind_strs (by rw [← e]; exact hS)) (by rw [← hlen0]; exact h64) fun st' hp hs => ⟨_, rfl, ?_⟩)
    (PyProof.Rows.args_list_sort _)))
  obtain ⟨ys, g1, g2, g3⟩ := sorted_out_str hS hp hs
  obtain ⟨e', he'⟩ := PyProof.Rows.sortedHeap_at (vs := its) (out := (arrOf st').map (·.2)) hoL
  have hlen : (ys.map V.str).length ≤ sizeLine := by
    rw [List.length_map, g2.length_eq]
    exact Nat.le_trans (Nat.le_of_lt h64) (by decide)
  have hf := I1.hok.fresh (Nat.le_refl _)
  refine wpAny_pure ⟨_, rfl, .ref h'.objs.size, upd H h'.objs.size (.lst (ys.map V.str)), I1.laid (t' := s.toks) (fun b u e => ?_) (Nat.le_refl _)
    (show ObjOk X.prog X.w _ _ _ (.lst (ys.map V.str)) from ⟨hlen, ((arrOf st').map (·.2)).toList, e', vals_of_strs g1, by rw [Array.toArray_toList]; exact he'⟩), rfl, q ys _ _ (Same.new hf) g2 g3 hf upd_same⟩
  have hb : b < h'.objs.size := Heap.lt_size e
  rw [PyProof.Rows.sortedHeap_old (Nat.ne_of_lt hb) (by rw [size_push']; exact Nat.lt_succ_of_lt hb)]
  exact Heap.get?_push_of_some _ e
/-! ### typed values as plain data -/
class Dat {α : Type} (A : Rel α) where
  enc : α → PyData
  ok : α → Prop
  dp : ∀ {K : PySem.W.Frag} {H : Hp} {v : V} {x : α}, A H v x → Dp K H v (enc x)
  lay : ∀ x, ok x → PyData.canLay0 (enc x) = true
  dep : Nat
  depth : ∀ x, (enc x).depth ≤ dep
  inj : ∀ x y, PyData.eqv (enc x) (enc y) = true → x = y
open Dat
theorem dat_shaped {α : Type} {A : Rel α} [Dat A] {x : α} (h : Dat.ok A x) (hd : Dat.dep A ≤ 64) : SeqAt.shaped (Dat.enc A x) = true := by
  unfold SeqAt.shaped
  rw [Dat.lay x h, decide_eq_true (Nat.le_trans (Dat.depth x) hd)]
  rfl
instance : Dat rI where
  enc i := .int i
  ok _ := True
  dp h := by rw [show _ = V.int _ from h]; exact .int _
  lay x _ := by simp only [PyData.canLay0]
  dep := 0
  depth x := by simp only [PyData.depth]; exact Nat.le_refl _
  inj x y h := by simpa [PyData.eqv] using h
instance : Dat rS where
  enc i := .str i
  ok x := PyData.strOk x = true
  dp h := by rw [show _ = V.str _ from h]; exact .str _
  lay x h := by simp only [PyData.canLay0]; exact h
  dep := 0
  depth x := by simp only [PyData.depth]; exact Nat.le_refl _
  inj x y h := by simpa [PyData.eqv] using h
instance {α β : Type} {A : Rel α} {B : Rel β} [Dat A] [Dat B] : Dat (rP A B) where
  enc x := .tuple [enc A x.1, enc B x.2]
  ok x := Dat.ok A x.1 ∧ Dat.ok B x.2
  dp h := by
    obtain ⟨a, p, q, rfl, ha, h1, h2⟩ := h
    exact .tup (SqT.of ha) (.cons (Dat.dp h1) (.cons (Dat.dp h2) .nil))
  lay x h := by simp only [PyData.canLay0, PyData.canLayAll0, Dat.lay _ h.1, Dat.lay _ h.2, Bool.and_self]
  dep := max (Dat.dep A) (Dat.dep B) + 1
  depth x := by
    simp only [PyData.depth, PyData.depthAll]
    have h1 := Dat.depth (A := A) x.1
    have h2 := Dat.depth (A := B) x.2
    omega
  inj x y h := by
    simp only [PyData.eqv, PyData.eqvAll, Bool.and_true, Bool.and_eq_true] at h
    exact Prod.ext (Dat.inj _ _ h.1) (Dat.inj _ _ h.2)
instance {α β γ : Type} {A : Rel α} {B : Rel β} {C : Rel γ} [Dat A] [Dat B] [Dat C] : Dat (rT3 A B C) where
  enc x := .tuple [enc A x.1, enc B x.2.1, enc C x.2.2]
  ok x := Dat.ok A x.1 ∧ Dat.ok B x.2.1 ∧ Dat.ok C x.2.2
  dp h := by
    obtain ⟨a, p, q, r, rfl, ha, h1, h2, h3⟩ := h
    exact .tup (SqT.of ha) (.cons (Dat.dp h1) (.cons (Dat.dp h2) (.cons (Dat.dp h3) .nil)))
  lay x h := by simp only [PyData.canLay0, PyData.canLayAll0, Dat.lay _ h.1, Dat.lay _ h.2.1, Dat.lay _ h.2.2, Bool.and_self]
  dep := max (Dat.dep A) (max (Dat.dep B) (Dat.dep C)) + 1
  depth x := by
    simp only [PyData.depth, PyData.depthAll]
    have h1 := Dat.depth (A := A) x.1
    have h2 := Dat.depth (A := B) x.2.1
    have h3 := Dat.depth (A := C) x.2.2
    omega
  inj x y h := by
    simp only [PyData.eqv, PyData.eqvAll, Bool.and_true, Bool.and_eq_true] at h
    exact Prod.ext (Dat.inj _ _ h.1) (Prod.ext (Dat.inj _ _ h.2.1) (Dat.inj _ _ h.2.2))
section
variable {α : Type} {A : Rel α} [Dat A]
theorem dpAll {K : PySem.W.Frag} {H : Hp} : ∀ {vs : List V} {xs : List α}, Paired (A H) vs xs → DpAll K H vs (xs.map (enc A))
  | _, _, .nil => .nil
  | _, _, .cons r t => .cons (Dat.dp r) (dpAll t)
theorem layAll : ∀ {xs : List α}, (∀ x ∈ xs, Dat.ok A x) → PyData.canLayAll0 (xs.map (enc A)) = true
  | [], _ => by simp only [List.map_nil, PyData.canLayAll0]
  | x :: xs, h => by
    simp only [List.map_cons, PyData.canLayAll0, Dat.lay x (h x List.mem_cons_self), layAll fun y hy => h y (List.mem_cons_of_mem _ hy), Bool.and_self]
theorem depAll : ∀ xs : List α, PyData.depthAll (xs.map (enc A)) ≤ Dat.dep A
  | [] => by simp only [List.map_nil, PyData.depthAll]; exact Nat.zero_le _
  | x :: xs => by
    simp only [List.map_cons, PyData.depthAll]
    have h1 := Dat.depth (A := A) x
    have h2 := depAll xs
    omega
theorem injAll : ∀ xs ys : List α, PyData.eqvAll (xs.map (enc A)) (ys.map (enc A)) = true → xs = ys
  | [], [], _ => rfl
  | [], _ :: _, h => by simp [PyData.eqvAll] at h
  | _ :: _, [], h => by simp [PyData.eqvAll] at h
  | x :: xs, y :: ys, h => by
    simp only [List.map_cons, PyData.eqvAll, Bool.and_eq_true] at h
    rw [Dat.inj x y h.1, injAll xs ys h.2]
instance : Dat (rTL A) where
  enc xs := .tuple (xs.map (enc A))
  ok xs := ∀ x ∈ xs, Dat.ok A x
  dp h := by
    obtain ⟨a, vs, rfl, ha, hp⟩ := h
    exact .tup (SqT.of ha) (dpAll hp)
  lay x h := by simp only [PyData.canLay0]; exact layAll h
  dep := Dat.dep A + 1
  depth x := by
    simp only [PyData.depth]
    have := depAll (A := A) x
    omega
  inj x y h := by
    simp only [PyData.eqv] at h
    exact injAll x y h
instance : Dat (rLL A) where
  enc xs := .list (xs.map (enc A))
  ok xs := ∀ x ∈ xs, Dat.ok A x
  dp h := by
    obtain ⟨a, vs, rfl, ha, hp⟩ := h
    exact .lst (SqL.of ha) (dpAll hp)
  lay x h := by simp only [PyData.canLay0]; exact layAll h
  dep := Dat.dep A + 1
  depth x := by
    simp only [PyData.depth]
    have := depAll (A := A) x
    omega
  inj x y h := by
    simp only [PyData.eqv] at h
    exact injAll x y h
end
theorem eqv_same {d : PyData} (h : SeqAt.shaped d = true) : PyData.eqv d d = true := SeqAt.eqv_refl d (SeqAt.canLay_of_shaped h)
/-- == of two typed values -/
theorem dat_eq {α : Type} {A : Rel α} [Dat A] [DecidableEq α] {x y : α} (hx : Dat.ok A x) (hd : Dat.dep A ≤ 64) : PyData.eqv (enc A x) (enc A y) = decide (x = y) := by
  by_cases h : x = y
  · subst h
    rw [eqv_same (dat_shaped hx hd), decide_eq_true rfl]
  · rw [decide_eq_false h]
    cases e : PyData.eqv (enc A x) (enc A y) with
    | true => exact absurd (Dat.inj _ _ e) h
    | false => rfl
/-- xs == [] -/
theorem eqv_nil : ∀ ds : List PyData, PyData.eqv (.list ds) (.list []) = ds.isEmpty
  | [] => by simp [PyData.eqv, PyData.eqvAll]
  | _ :: _ => by simp [PyData.eqv, PyData.eqvAll]
theorem shaped_nil : SeqAt.shaped (.list []) = true := by decide +kernel
end K5
set_option maxHeartbeats 4000000
namespace K5
open PySem PySem.Spec PyProof.Rows L2
/-- == and != of typed data -/
def rEqT (neg : Bool) : R2 := fun x y H Q => ∃ (α : Type) (A : Rel α) (_ : Dat A) (_ : DecidableEq α) (d e : α), A H x d ∧ A H y e ∧ Dat.ok A d ∧ Dat.ok A e ∧ Dat.dep A ≤ 64 ∧ Q (.bl (if neg then !decide (d = e) else decide (d = e))) H
def rNeNil : R2 := fun x y H Q => ∃ (α : Type) (A : Rel α) (_ : Dat A) (a b : Addr) (xs : List V) (ds : List α), x = .ref a ∧ y = .ref b ∧ H a = some (.lst xs) ∧ Paired (A H) xs ds ∧ (∀ d ∈ ds, Dat.ok A d) ∧ Dat.dep A ≤ 63 ∧ H b = some (.lst []) ∧ Q (.bl (!ds.isEmpty)) H
section
variable {X : Cx}
theorem op_eqT (hu : X.A.units + 64 < cLine) : OpR X (compareOp .Eq) (rEqT false) := OpR.weak (op_eqD hu) fun _ _ _ _ ⟨α, A, _, _, d, e, h1, h2, o1, o2, hd, q⟩ =>
  ⟨Dat.enc A d, Dat.enc A e, Dat.dp h1, Dat.dp h2, dat_shaped o1 hd, dat_shaped o2 hd, by rw [dat_eq o1 hd]; exact q⟩
theorem op_neT (hu : X.A.units + 64 < cLine) : OpR X (compareOp .NotEq) (rEqT true) := OpR.weak (op_neD hu) fun _ _ _ _ ⟨α, A, _, _, d, e, h1, h2, o1, o2, hd, q⟩ =>
  ⟨Dat.enc A d, Dat.enc A e, Dat.dp h1, Dat.dp h2, dat_shaped o1 hd, dat_shaped o2 hd, by rw [dat_eq o1 hd]; exact q⟩
theorem op_neNil (hu : X.A.units + 64 < cLine) : OpR X (compareOp .NotEq) rNeNil := OpR.weak (op_neD hu) fun _ _ _ _ ⟨α, A, _, a, b, xs, ds, e1, e2, h1, p1, o1, hd, h2, q⟩ =>
  ⟨Dat.enc (rLL A) ds, .list [], by rw [e1]; exact Dat.dp (A := rLL A) ⟨a, xs, rfl, h1, p1⟩, by rw [e2]; exact .lst (SqL.of h2) .nil, dat_shaped (A := rLL A) o1 (Nat.succ_le_succ hd), shaped_nil, by
    rw [show PyData.eqv (Dat.enc (rLL A) ds) (.list []) = ds.isEmpty by show PyData.eqv (.list (ds.map (Dat.enc A))) (.list []) = _; rw [eqv_nil]; cases ds <;> rfl]
    exact q⟩
end
/-- the slots, told anew -/
def tNorm (t : TS) : TS := fun D σ H => ∃ σ', σ' = σ ∧ t D σ' H
theorem _root_.L2.PSs.norm {X : Cx} {b : List Stmt} {t : TS} (h : PSs X b t) : PSs X b (tNorm t) := ⟨fun pins s σ H D I ⟨σ', e, q⟩ => h.run pins s σ H D I (by rw [← e]; exact q)⟩
theorem strOk_of {z : Str} (h : ∀ c ∈ z.cps.toList, c < 1114112) : PyData.strOk z = true := by
  unfold PyData.strOk
  rw [Array.all_eq_true']
  intro c hc
  exact decide_eq_true (h c (by simpa using hc))
end K5
set_option maxHeartbeats 2000000
namespace K5
open PySem PySem.Spec PyProof.Rows L2
section
variable {X : Cx} {k : Nat} {x : Str} {sp : Sp} {p pos apos : Pos} {e o : Expr} {es : List Expr} {ta : TE} {t : TA} {W : WX}
/-- a call within a try -/
theorem pcS (tk : Takes X W) (c : Cl X.prog X.w X.K X.mg X.base (L2.CX X.prog X.w) k x sp) (hr : Room k X.A) (ha : PA X (e :: es) t) (hg : Gl X x := by rfl) (hdb : (x == ("__debug__" : Str)) = false := by decide)
    (he : starEach (e :: es) X.env = (false, eval e X.env) :: starEach es X.env := by rfl) (hpl : (backTo pos (starEach es X.env)).any (·.1) = false := by rfl) :
    PE X (.Call (.Name x p) (e :: es) [] pos) (tCallS sp (WE W) t) := by
  obtain ⟨f, fd, ps, F, hm, kp, b⟩ := c.ex
  exact pe_callS F hr hg hm kp b (fun σ => passAt tk σ) ha hdb he hpl
end
/-- sorted(e.items()), the keys texts, the values whole numbers: some new list -/
def tSortedItems (te : TE) : TE := fun σ H Q => te σ H fun x H1 => ∃ (d : Addr) (kvs : List (Key × V)), x = .ref d ∧ H1 d = some (.dK kvs) ∧ kvs.length ≤ 1000 ∧ (∀ kv ∈ kvs, (∃ z : Str, kv.1 = Sum.inr z) ∧ ∃ i : Int, kv.2 = .int i) ∧
  ∀ p us H', Same H1 H' → H1 p = none → H' p = some (.lst us) → us.length ≤ 1000 → Q (.ref p) H'
def shI : Nat → Bool := fun i => i == 0
theorem tupKeyC_at {h : Heap} {a : Addr} {x : Str} {t u : Tok} {i : Int} (ho : h.get? a = some { cls := .type "tuple", data := .seq #[.str x t, .int i u] }) : ∃ l, G.tupKeyC h shI (.ref a) = some l := by
  unfold G.tupKeyC
  have e1 : G.isTupObj h (.ref a) = true := by simp [G.isTupObj, ho]
  rw [if_pos e1]
  simp only [tupKey, ho]
  exact ⟨_, rfl⟩
theorem tupsOf_all {h : Heap} : ∀ {as : List Addr}, (∀ a ∈ as, ∃ (x : Str) (t u : Tok) (i : Int), h.get? a = some { cls := .type "tuple", data := .seq #[.str x t, .int i u] }) → ∃ fs, TupsOf h shI (as.map Value.ref) fs
  | [], _ => ⟨[], .nil⟩
  | a :: as, hp => by
    obtain ⟨fs, hf⟩ := tupsOf_all (as := as) fun b hb => hp b (List.mem_cons_of_mem _ hb)
    obtain ⟨x, t, u, i, e⟩ := hp a List.mem_cons_self
    exact ⟨.str x t :: fs, .cons ⟨a, _, _, _, rfl, e, rfl, rfl, rfl, (fun z => by cases z), fun _ => ⟨_, _, rfl⟩⟩ hf⟩
theorem refs_vals : ∀ {ws : List Value}, (∀ v ∈ ws, ∃ a, v = Value.ref a) → ∃ us : List V, Vals us ws ∧ us.length = ws.length
  | [], _ => ⟨[], .nil, rfl⟩
  | v :: ws, h => by
    obtain ⟨us, h1, h2⟩ := refs_vals (ws := ws) fun u hu => h u (List.mem_cons_of_mem _ hu)
    obtain ⟨a, rfl⟩ := h v List.mem_cons_self
    exact ⟨.ref a :: us, .cons rfl h1, by rw [List.length_cons, List.length_cons, h2]⟩
section
variable {X : Cx} {e : Expr} {te : TE} {p apos cpos pos : Pos}
theorem pe_sortedItems (hc : X.calm = true) (hg : Gl X "sorted") (hm : X.mg "sorted" = none) (he : PE X e te) (hbase : attributeBase e "items" X.env (eval e X.env) = eval e X.env := by rfl) (hline : (apos.endLine == cpos.line) = true := by rfl)
    (hs : starEach [.Call (.Attribute e "items" apos) [] [] cpos] X.env = (false, eval (.Call (.Attribute e "items" apos) [] [] cpos) X.env) :: starEach [] X.env := by rfl) :
    PE X (.Call (.Name "sorted" p) [.Call (.Attribute e "items" apos) [] [] cpos] [] pos) (tSortedItems te) := by
  refine ⟨fun pins s σ H Q I hq => ?_⟩
  refine wpAny_Call_Name_kw (ld_blt I hg hm boot_sorted ?_)
  refine PyProof.Rows.callWith_builtin1 ?_ hs rfl
  rw [hs]
  show wpAny _ _ (spliced ((false, eval (.Call (.Attribute e "items" apos) [] [] cpos) X.env) :: backTo pos (starEach [] X.env))) _ _ s
  refine Calls.spliced_cons ?_
  refine wpAny_Call_method (T := "dict") (id := "dict.items") hbase rfl hline F.plainAttrs_dict F.slot_dict_items F.type_dict_items (thn (he.run pins s σ H _ I hq) fun u s1 ⟨x, H1, I1, rx, d, kvs, ex, hd, hz1, hkv, q⟩ => ?_)
  subst ex
  obtain rfl : u = Value.ref d := rx
  obtain ⟨hz, hs0, vs, kv, hdo⟩ := I1.hok d _ hd
  obtain ⟨ep, hat⟩ := hdo.dictAt
  have lk : kvs.length = vs.length := Paired.length kv
  have I2 : Inv X pins σ H1 { s1 with heap := s1.heap.push { cls := .type "dict_items", data := .fields #[.ref d] } } := I1.kept (t' := s1.toks) fun b ob q => Heap.get?_push_of_some _ q
  refine ⟨hdo.typeIs, hdo.mapOf.noDict, ?_⟩
  show wpAny _ _ (callWith cpos (.builtin "dict.items") [.ref d] [] []) _ X.xe s1
  refine method_meetsIn F.slot_dict_items F.entry_dict_items rfl (PySem.evalArgs_none ⟨rfl, hdo.typeIs, F.args_dict_items_1 _, _, meets_dict_items (mixKind X.prog X.w) d hs0, ⟨vs, hdo⟩, ?_⟩)
  refine Calls.spliced_nil ?_
  refine Calls.call_function_entry PyProof.Rows.kind_sorted PyProof.Rows.plain_sorted PyProof.Rows.entry_sorted (PyProof.Rows.args_sorted1 _) ?_
  unfold Builtin.«sorted»
  refine wpAny_bind (m := checkCount "sorted" 1 1 _) (wpAny_pure ?_)
  refine wpAny_bind (PySem.W.kdx_collect (A := X.A.in1) (knd := mixKind X.prog X.w) (kvs := vs) (ep := ep) (I1.ok.hd hc) ⟨_, Heap.get?_push_size _ rfl, rfl, rfl⟩ (hat.push _) (by omega) fun h' tk as hk hl hG => ?_)
  have I3 : Inv X pins σ H1 { s1 with heap := h', toks := tk } := I2.kept hk
  have hpair : ∀ a ∈ as, ∃ (x : Str) (t u : Tok) (i : Int), h'.get? a = some { cls := .type "tuple", data := .seq #[.str x t, .int i u] } := fun a ha => by
    obtain ⟨j, hj⟩ := List.mem_iff_getElem?.mp ha
    obtain ⟨key, k, y, f1, f2, f3⟩ := hG.pairs j a hj
    obtain ⟨q0, g0, g1⟩ := pr_get' kv f1
    obtain ⟨⟨z, ez⟩, i, ei⟩ := hkv q0 (List.mem_of_getElem? g0)
    have rk : RelV (kV q0.1) key := by
      rw [g1.1]
      exact relV_key (show keyIs k key = true from f2)
    rw [ez] at rk
    obtain ⟨t, et⟩ := (show ∃ t, key = Value.str z t from rk)
    have ry := g1.2
    rw [ei] at ry
    obtain ⟨u, eu⟩ := (show ∃ u, y = Value.int i u from ry)
    exact ⟨z, t, u, i, by rw [f3, et, eu]⟩
  have hal : as.length ≤ 1000 := by omega
  refine wpAny_bind (wpAny_newList ?_ (by rw [List.length_map, sizeLine_eq]; omega))
  have hoL : (h'.push (seqObj "list" (as.map Value.ref).toArray 0)).get? h'.objs.size = some (seqObj "list" (as.map Value.ref).toArray 0) := Heap.get?_push_size _ rfl
  have hpair2 : ∀ a ∈ as, ∃ (x : Str) (t u : Tok) (i : Int), (h'.push (seqObj "list" (as.map Value.ref).toArray 0)).get? a = some { cls := .type "tuple", data := .seq #[.str x t, .int i u] } := fun a ha => by
    obtain ⟨x, t, u, i, e⟩ := hpair a ha
    exact ⟨x, t, u, i, Heap.get?_push_of_some _ e⟩
  obtain ⟨fs, hfs⟩ := tupsOf_all hpair2
  show wpAny _ _ _ _ _ { s1 with heap := h'.push (seqObj "list" (as.map Value.ref).toArray 0), toks := tk }
  refine wpAny_bind (wpAny_holding (wpAny_call_entry PyProof.Rows.slot_list_sort ⟨_, hoL, rfl⟩ PyProof.Rows.entry_list_sort
    (G.list_sort_tups (s := { s1 with heap := h'.push (seqObj "list" (as.map Value.ref).toArray 0), toks := tk }) hoL hfs (fun v hv => ?_) (by rw [List.length_map, sizeLine_eq]; omega) fun st' hp _ _ => ⟨_, rfl, ?_⟩)
    (PyProof.Rows.args_list_sort _)))
  · obtain ⟨a, ha, rfl⟩ := List.mem_map.mp hv
    obtain ⟨x, t, u, i, e⟩ := hpair2 a ha
    exact tupKeyC_at e
  · obtain ⟨e', he'⟩ := PyProof.Rows.sortedHeap_at (vs := as.map Value.ref) (out := (arrOf st').map (·.2)) hoL
    have hl2 : (arrOf st').toList.Perm ((as.map Value.ref).zip (as.map Value.ref)) := by rw [← pairsOf_toList]; exact Array.perm_iff_toList_perm.mp hp
    have hout : ∀ v ∈ ((arrOf st').map (·.2)).toList, ∃ a, v = Value.ref a := fun v hv => by
      rw [Array.toList_map] at hv
      obtain ⟨p, hp', rfl⟩ := List.mem_map.mp hv
      obtain ⟨_, h2⟩ := List.of_mem_zip (hl2.mem_iff.mp hp')
      obtain ⟨a, _, e⟩ := List.mem_map.mp h2
      exact ⟨a, e.symm⟩
    obtain ⟨us, hus, hul⟩ := refs_vals hout
    have hul2 : us.length = as.length := by
      rw [hul, Array.toList_map, List.length_map, hl2.length_eq, List.length_zip, List.length_map, Nat.min_self]
    have hf := I3.hok.fresh (Nat.le_refl h'.objs.size)
    refine wpAny_pure ⟨_, rfl, .ref h'.objs.size, upd H1 h'.objs.size (.lst us), I3.laid (t' := tk) (fun b u e => ?_) (Nat.le_refl _)
      (show ObjOk X.prog X.w _ _ _ (.lst us) from ⟨by rw [hul2, sizeLine_eq]; omega, ((arrOf st').map (·.2)).toList, e', hus, by rw [Array.toArray_toList]; exact he'⟩), rfl, q _ us _ (Same.new hf) hf upd_same (by omega)⟩
    have hb : b < h'.objs.size := Heap.lt_size e
    rw [PyProof.Rows.sortedHeap_old (Nat.ne_of_lt hb) (by rw [size_push']; exact Nat.lt_succ_of_lt hb)]
    exact Heap.get?_push_of_some _ e
end
end K5
set_option maxHeartbeats 1000000
namespace K5
open PySem PySem.Spec PyProof.Rows L2
/-- an exception that is kept: its class is known -/
def ExO (C a : Addr) : HO := .ext fun h => ∃ (oe : Obj) (vs : Array Value), Zc (.ref C) none oe ∧ oe.data = .fields vs ∧ h.get? a = some oe
def wKept (K : PySem.W.Frag) (c : Value) (i : Nat) (ts : Addr → Addr → TS) (Wout : WX) (D : Ends) : WX := fun cls d σ H =>
  ∃ b, PySem.W.exmOne K cls c = some b ∧ (b = true → ∃ C, cls = .ref C ∧ d = none ∧ ∀ a, H a = none → ts a C { nx := fun σ' H' => D.nx (σ'.set i none) (upd H' a (ExO C a)), rt := fun _ _ => False, bk := fun _ _ => False, ct := fun _ _ => False } (σ.set i (some (.ref a))) H) ∧
    (b = false → Wout cls d σ H)
section
variable {X : Cx} {x n : Str} {c : Value} {i : Nat} {body suite : List Stmt} {b₀ : Stmt} {np pos pos' : Pos} {tb : WX → TS} {ts : Addr → Addr → TS} {Wout : WX}
theorem inv_kept {pins : List (Addr × Obj)} {σ : L2.St} {H : Hp} {s : Shared} {a C : Addr} {oe : Obj} {vs : Array Value} {xe : Value → Shared → Prop} (I : Inv (X.tr ((a, oe) :: (X.pn ++ pins)) xe) [] σ H s) (ok : X.Ok) (hz : Zc (.ref C) none oe) (hd : oe.data = .fields vs)
    (h0 : ∀ o, X.s_0.heap.get? a = some o → a ∈ X.ex) (hp : ∀ p ∈ X.pn ++ pins, p.1 ≠ a) (hc : ∀ y c, X.env.cells.lookup y = some c → c ≠ a) : Inv X pins σ (upd H a (ExO C a)) s := by
  obtain ⟨g1, g2, g3, g4, g5⟩ := I.pin (a, oe) (List.mem_append_left _ List.mem_cons_self)
  have hb := I.base
  have g3 : a ≠ X.env.locals := g3
  refine ⟨ok, I.os, I.bare, ?_, I.loc, I.cell, ?_, fun y c e => ?_, fun p hpm => ?_, fun b ob e => ?_, I.len⟩
  · exact ⟨hb.keep, hb.slot, fun b o e n hx => by rw [upd_ne (show b ≠ a from fun z => hx (by rw [z]; exact h0 o (by rw [← z]; exact e)))]; exact hb.free b o e n hx, hb.there, fun b us e => by
      have := hb.tups b us e
      rw [upd_ne (ne_of_none this g2)]
      exact this, fun b o u e => by
      have := hb.frzs b o u e
      rw [upd_ne (ne_of_none this g2)]
      exact this, fun b ps e => by
      obtain ⟨more, this⟩ := hb.tbls b ps e
      exact ⟨more, by rw [upd_ne (ne_of_none this g2)]; exact this⟩⟩
  · rw [upd_ne g3.symm]
    exact I.free
  · rw [upd_ne (hc y c e)]
    exact I.freeC y c e
  · obtain ⟨k1, k2, k3⟩ := I.pin p (List.mem_append_left _ (List.mem_cons_of_mem _ hpm))
    exact ⟨k1, by rw [upd_ne (hp p hpm)]; exact k2, k3⟩
  · by_cases eb : b = a
    · subst eb
      rw [upd_same] at e
      obtain rfl := Option.some.inj e
      exact ⟨⟨oe, vs, hz, hd, g1⟩, ⟨oe, g1⟩, fun h1 h2 ⟨oe', vs', z1, z2, z3⟩ hk => ⟨oe', vs', z1, z2, hk _ z3⟩⟩
    · rw [upd_ne eb] at e
      exact (I.hok b ob e).stay (fun c v _ q => q) (fun c q => by rw [upd_ne (ne_of_none q g2)]; exact q) fun c us q => by rw [upd_ne (ne_of_none q g2)]; exact q
theorem ps_try_kept (hs : X.stack = X.env :: X.outer) (hf : X.env.frame = some X.env.locals) (hN : X.N.Nodup) (hi : X.N[i]? = some n) (hln : X.env.kindOf n = some .local) (hc : Names X x c) (tk : Takes X Wout)
    (hb : ∀ (W : WX) (pn : List (Addr × Obj)) (xe : Value → Shared → Prop), Takes (X.tr pn xe) W → PassesOwn (model X.prog X.w) X.A X.env xe → PSs (X.tr pn xe) body (tb W))
    (hsu : ∀ (a C : Addr) (oe : Obj) (pn : List (Addr × Obj)), PSs (X.suite a ((a, oe) :: pn)) (b₀ :: suite) (ts a C)) :
    PS X (.Try body [.ExceptHandler (some (.Name x np)) (some n) (b₀ :: suite) pos'] [] [] pos) (fun D σ H => tb (wKept X.K c i ts Wout D) D σ H) := by
  refine ⟨fun pins s σ H D I h => ?_⟩
  have ok := I.ok
  have hfr : X.A.frames = some (X.env :: X.outer) := by rw [ok.frames, hs]
  have hloc : Loc X.env.scope n := .inl hln
  refine wpAny_Try_except ?_
  refine wpAny_mono ((hb (wKept X.K c i ts Wout D) (X.pn ++ pins) (fun e s₁ => wpAny (model X.prog X.w) X.A (noteFrame e X.env) (fun _ s₂ => wpAny (model X.prog X.w) X.A (setFlight e none) (fun _ s₃ =>
    wpAny (model X.prog X.w) X.A (handleBy e X.env [.ExceptHandler (some (.Name x np)) (some n) (b₀ :: suite) pos']) (SP X pins D) X.xe s₃) X.xe s₂) X.xe s₁) (fun u s' xx => ?_) PassesOwn.looking).run [] s σ H D (I.toTry _) h) (fun f s1 hsp => ?_) (fun e s1 he => he)
  · obtain ⟨a, B, sI, pins', σ', H', cls, d, rfl, J', nb, up, sky, na, os, ag, b, hb1, hyes, hno⟩ := xx
    have J : Inv X pins σ' H' sI := J'.ofTry ok
    have sky' : Sky B (X.env :: X.outer) a (Zc cls d) X.env.locals s'.heap := by rw [← hs]; exact sky
    show wpAny (model X.prog X.w) X.A (noteFrame (.ref a) X.env) _ _ _
    refine Sky.land Zc.steady hfr hf sky' fun h3 fl3 up3 => ?_
    have J3 : Inv X pins σ' H' { s' with heap := h3 } := J.landed nb fl3.1 (up.trans up3) os ag
    obtain ⟨oe3, vs3, he3, hz3, hd3⟩ := fl3.there
    have notFr : ∀ {h : Heap} {o : Obj} {vs : Array Value}, h.FunFrames B (X.env :: X.outer) → h.get? a = some o → o.data = .fields vs → a ∉ frs (X.env :: X.outer) := fun {h o vs} ff e dd hm => by
      obtain ⟨_, o', e', hnf⟩ := ff.mem hm
      rw [e] at e'; cases e'
      exact hnf _ dd
    have nfr := notFr fl3.2.2.1 he3 hd3
    have nL : a ≠ X.env.locals := fun z => nfr (List.mem_filterMap.mpr ⟨X.env, List.mem_cons_self, by rw [hf, z]⟩)
    have nF : a ∉ X.fs := fun hm => by
      obtain ⟨e, he, q⟩ := List.mem_filterMap.mp hm
      exact nfr (List.mem_filterMap.mpr ⟨e, List.mem_cons_of_mem _ he, q⟩)
    have nst : a ∉ frs X.stack := by rw [hs]; exact nfr
    have sIa : ∀ o, sI.heap.get? a ≠ some o := fun o e => by
      have := nb a o e nst
      rw [fl3.2.1] at this
      cases this
    have S3 := J3.suite he3 hd3 na nL nF
    refine wpAny_handleBy_cons (codeAny_handlers_test ?_) (by intro q; cases q)
    have LT : PySem.W.Looks (model X.prog X.w) h3 (typeOf (.ref a)) cls := fun A Q E s k q => wpAny_typeOf_ref (k _ _ he3) (by rw [hz3.1]; exact q)
    have LM := PySem.W.exm_one (M := model X.prog X.w) (J3.kIn) LT hb1
    have test : ∀ {Q : Value → Shared → Prop} {E : Value → Shared → Prop}, Q c { s' with heap := h3 } → wpAny (model X.prog X.w) (X.A.mark (some (.ref a))) (eval (.Name x np) X.env) Q E { s' with heap := h3 } := fun {Q E} q => by
      obtain ⟨hg, hdbg, hm | ⟨hm, hv, hnn⟩⟩ := hc
      · exact ld_glob (X := X.suite a ((a, oe3) :: (X.pn ++ pins))) S3 hg hm q hdbg
      · exact ld_blt (X := X.suite a ((a, oe3) :: (X.pn ++ pins))) S3 hg hm hv q hnn hdbg
    refine test (LM.here ?_)
    cases b with
    | true =>
      refine codeAny_handlers_suite_as ?_
      refine HandSPX.lands_againZ fl3 fun h4 fl4 up4 => ?_
      have J4 : Inv X pins σ' H' { s' with heap := h4 } := J.landed nb fl4.1 ((up.trans up3).trans up4) os ag
      obtain ⟨oe4, vs4, he4, hz4, hd4⟩ := fl4.there
      have S4 := J4.suite he4 hd4 na nL nF
      obtain ⟨C, rfl, rfl, hgo⟩ := hyes rfl
      refine store_ok (X := X.suite a ((a, oe4) :: (X.pn ++ pins))) (v := .ref a) S4 hN hi hloc rfl (fun s5 S5 => ?_) (.inr hln)
      refine wpAny_mono ((hsu a C oe4 (X.pn ++ pins)).run [] s5 _ H' _ S5 (hgo a na)) (fun f s6 hsp => ?_) (fun _ _ z => False.elim z)
      cases f with
      | next =>
        obtain ⟨σ6, H6, S6, q6⟩ := hsp
        have J6 : Inv (X.tr ((a, oe4) :: (X.pn ++ pins)) X.xe) [] σ6 H6 s6 := ⟨ok.toTry _ _, S6.os, S6.bare, S6.base, S6.loc, S6.cell, S6.free, S6.freeC, S6.pin, S6.hok, S6.len⟩
        refine gone_ok (X := X.tr ((a, oe4) :: (X.pn ++ pins)) X.xe) J6 hN hi hln fun s7 J7 => ?_
        refine ⟨_, _, inv_kept J7 ok hz4 hd4 (fun o e => ?_) (fun p hp z => ?_) (fun y cc e z => ?_), q6⟩
        · exact Classical.byContradiction fun hx => let ⟨o', e'⟩ := J.base.there a o e hx; sIa o' e'
        · exact sIa _ (by rw [← z]; exact (J.pin p hp).1)
        · obtain ⟨v, hv⟩ := J.cell y cc e
          rw [z] at hv
          obtain ⟨o', e', _⟩ := hv
          exact sIa o' e'
      | brk =>
        obtain ⟨σ6, H6, S6, q6⟩ := hsp
        exact q6.elim
      | cont =>
        obtain ⟨σ6, H6, S6, q6⟩ := hsp
        exact q6.elim
      | ret u =>
        obtain ⟨v6, σ6, H6, S6, r6, q6⟩ := hsp
        exact q6.elim
    | false =>
      show wpAny _ X.A (handleBy (.ref a) X.env []) _ _ _
      refine wpAny_handleBy_nil ?_
      obtain ⟨k1, k2, k3, oe, vs, T, oT, ts', he, hz, hd, h1, hr⟩ := id fl3
      unfold PySem.passOn
      refine wpAny_bind (wpAny_field he hd h1 ?_)
      rw [if_neg (show ¬ ((Value.ref T == Value.none) = true) from by simp)]
      have fin : wpAny (model X.prog X.w) X.A (setFlight (.ref a) X.env.frame) (fun _ s4 => wpAny (model X.prog X.w) X.A (throw (.ref a) : Sem Flow) (SP X pins D) X.xe s4) X.xe { s' with heap := h3 } := by
        rw [hf]
        refine HandSPX.setFlight_upZ fl3 fun h4 hh4 up4 => wpAny_throw (tk _ _ ?_)
        exact ⟨a, B, sI, pins, σ', H', cls, d, rfl, J, nb, (up.trans up3).trans up4, .inr (.inr (by rw [hs]; exact hh4)), na, os, ag, hno rfl⟩
      first
        | exact wpAny_bind (wpAny_pure (wpAny_bind fin))
        | exact wpAny_bind fin
  · cases f with
    | next =>
      obtain ⟨σ', H', J', q⟩ := hsp
      exact wpAny_execs_nil ⟨σ', H', J'.ofTry ok, q⟩
    | brk =>
      obtain ⟨σ', H', J', q⟩ := hsp
      exact ⟨σ', H', J'.ofTry ok, q⟩
    | cont =>
      obtain ⟨σ', H', J', q⟩ := hsp
      exact ⟨σ', H', J'.ofTry ok, q⟩
    | ret u =>
      obtain ⟨v, σ', H', J', r, q⟩ := hsp
      exact ⟨v, σ', H', J'.ofTry ok, r, q⟩
/-- isinstance(e, c), e a kept exception -/
def rIsX (K : PySem.W.Frag) : List V → Hp → VK → Prop := fun xs H Q => ∃ (a C : Addr) (c : V) (u : Value) (b : Bool), xs = [.ref a, c] ∧ ClsV c u ∧ H a = some (ExO C a) ∧ ExcC K C ∧ PySem.W.kitOne K (.ref C) u = some b ∧ Q (.bl b) H
def rIsXT (K : PySem.W.Frag) : List V → Hp → VK → Prop := fun xs H Q => ∃ (a C tp : Addr) (cs : List V) (us : List Value) (b : Bool), xs = [.ref a, .ref tp] ∧ H tp = some (.tup cs) ∧ Paired ClsV cs us ∧ H a = some (ExO C a) ∧ ExcC K C ∧ PySem.W.kitAny K (.ref C) us = some b ∧ Q (.bl b) H
theorem exo_at {pins : List (Addr × Obj)} {s : Shared} {σ : L2.St} {H : Hp} {a C : Addr} (I : Inv X pins σ H s) (h : H a = some (ExO C a)) : ∃ oe, PySem.W.InstAt s.heap a oe C none := by
  obtain ⟨⟨oe, vs, hz, hv, hg⟩, _⟩ := (show ObjOk X.prog X.w H s.heap a (ExO C a) from I.hok a _ h)
  obtain ⟨oc, od, oda, osl⟩ := oe
  obtain ⟨h1, h2⟩ := hz
  dsimp only at h1 h2 hv
  subst h1 h2 hv
  exact ⟨_, hg, rfl, rfl, trivial⟩
theorem call_isX : CallR X (.builtin "isinstance") (rIsX X.K) := by
  intro pins s σ H xs us Q I r h
  obtain ⟨a, C, c, u, b, rfl, k, ha, hC, e, q⟩ := h
  obtain ⟨u1, u2, rfl, r1, r2⟩ := vals2 r
  cases (show u1 = Value.ref a from r1)
  have e2 := k.eq r2
  subst e2
  obtain ⟨oe, J⟩ := exo_at I ha
  exact PySem.W.kia_one (PySem.W.handS_kitx_exc hC.hg hC.hk hC.hs hC.hd hC.ha hC.hn hC.ht hC.hm) I.kIn J e (fun z => nomatch z) fun tk => ⟨.bl b, H, I.tok tk, rfl, q⟩
theorem call_isXT : CallR X (.builtin "isinstance") (rIsXT X.K) := by
  intro pins s σ H xs us Q I r h
  obtain ⟨a, C, tp, cs, ws, b, rfl, hT, k, ha, hC, e, q⟩ := h
  obtain ⟨u1, u2, rfl, r1, r2⟩ := vals2 r
  cases (show u1 = Value.ref a from r1)
  cases (show u2 = Value.ref tp from r2)
  obtain ⟨oe, J⟩ := exo_at I ha
  obtain ⟨_, its, rv, o, h1, h2, n, h3⟩ := (show ObjOk X.prog X.w H s.heap tp (.tup cs) from I.hok tp _ hT)
  have e3 := ClsV.all k rv
  subst e3
  obtain ⟨oc, od, dt, sl⟩ := o
  simp only at h2 h3
  subst h2 h3
  exact PySem.W.kia_tup (PySem.W.handS_kitx_exc hC.hg hC.hk hC.hs hC.hd hC.ha hC.hn hC.ht hC.hm) I.kIn J h1 e (fun z => nomatch z) fun tk => ⟨.bl b, H, I.tok tk, rfl, q⟩
end
end K5
set_option maxHeartbeats 4000000
namespace K5
open PySem PySem.Spec PyProof.Rows L2
def partsTab : List (Str × Str) := [("day", "d"), ("come", "nn"), ("go", "n"), ("move", "nn"), ("worth", "nw"), ("excuse", "n"), ("charge", "n"), ("demand", "h"), ("close", "s"), ("term", "nn"), ("pay", "ntrns"), ("hand", "nts"), ("pass", "nts")]
def boundsTab : List (Str × Int × Int) := [("d", 1, 360), ("w", 0, 9999), ("h", 1, 2), ("s", 0, 1000000000), ("t", 0, 19), ("r", 1, 200)]
/-- what the program's top leaves -/
structure Txt (w : World) (K : PySem.W.Frag) (mg : Str → Option Value) where
  cTerm : Addr
  cBooks : Addr
  cLedger : Addr
  bA : Addr
  kP : Addr
  kB : Addr
  eP : Array DictEntry
  eB : Array DictEntry
  nP : Nat
  nB : Nat
  eRollError : Addr
  eBadName : Addr
  eBadSum : Addr
  eBadWeights : Addr
  eBadHalf : Addr
  eBadDay : Addr
  eBadCounty : Addr
  eBadExcused : Addr
  eBadAppeal : Addr
  eBadText : Addr
  eBadDeed : Addr
  eBadTerm : Addr
  eBadPaper : Addr
  eBadStory : Addr
  d_is_whole : DefAt K mg "is_whole" (top 20)
  d_is_name : DefAt K mg "is_name" (top 21)
  d_is_holding : DefAt K mg "is_holding" (top 29)
  d_is_house : DefAt K mg "is_house" (top 30)
  d_is_parish : DefAt K mg "is_parish" (top 31)
  d_all_houses : DefAt K mg "all_houses" (top 32)
  d_are_unlike : DefAt K mg "are_unlike" (top 33)
  d_is_county : DefAt K mg "is_county" (top 34)
  d_need_county : DefAt K mg "need_county" (top 35)
  d_need_name : DefAt K mg "need_name" (top 36)
  d_worth_so : DefAt K mg "worth_so" (top 37)
  d_days_in : DefAt K mg "days_in" (top 38)
  d_empty_so : DefAt K mg "empty_so" (top 39)
  d_need_sum : DefAt K mg "need_sum" (top 42)
  d_share_out : DefAt K mg "share_out" (top 43)
  d_are_excused : DefAt K mg "are_excused" (top 46)
  d_need_excused : DefAt K mg "need_excused" (top 47)
  d_sums_of_parishes : DefAt K mg "sums_of_parishes" (top 48)
  d_sums_of_houses : DefAt K mg "sums_of_houses" (top 49)
  d_parts_so : DefAt K mg "parts_so" (top 50)
  d_all_parts : DefAt K mg "all_parts" (top 51)
  d_need_asked : DefAt K mg "need_asked" (top 52)
  d_lost : DefAt K mg "lost" (top 53)
  d_with_worth : DefAt K mg "with_worth" (top 55)
  d_won_so : DefAt K mg "won_so" (top 56)
  d_changed : DefAt K mg "changed" (top 57)
  d_need : DefAt K mg "need" (top 59)
  d_is_part : DefAt K mg "is_part" (top 68)
  d_has_deed_form : DefAt K mg "has_deed_form" (top 69)
  d_with_holdings : DefAt K mg "with_holdings" (top 72)
  d_house_in : DefAt K mg "house_in" (top 73)
  d_come_in : DefAt K mg "come_in" (top 74)
  d_go_out : DefAt K mg "go_out" (top 75)
  d_do_day : DefAt K mg "do_day" (top 76)
  d_do_people : DefAt K mg "do_people" (top 77)
  d_do_worth : DefAt K mg "do_worth" (top 78)
  d_do_demand : DefAt K mg "do_demand" (top 79)
  d_do_close : DefAt K mg "do_close" (top 80)
  d_do_term : DefAt K mg "do_term" (top 81)
  d_do_pay : DefAt K mg "do_pay" (top 82)
  d_do_hand : DefAt K mg "do_hand" (top 83)
  d_led : DefAt K mg "led" (top 84)
  d__law_mixed : DefAt K mg "_law_mixed" (top 87)
  d__law_folded : DefAt K mg "_law_folded" (top 88)
  d__law_draw : DefAt K mg "_law_draw" (top 89)
  d__law_begun : DefAt K mg "_law_begun" (top 90)
  d__law_called : DefAt K mg "_law_called" (top 91)
  d__law_people : DefAt K mg "_law_people" (top 92)
  d__law_holdings : DefAt K mg "_law_holdings" (top 93)
  d__law_worth : DefAt K mg "_law_worth" (top 94)
  d__law_county : DefAt K mg "_law_county" (top 95)
  d__law_sum : DefAt K mg "_law_sum" (top 96)
  d__law_excused : DefAt K mg "_law_excused" (top 97)
  d__law_worths : DefAt K mg "_law_worths" (top 98)
  d__law_deed : DefAt K mg "_law_deed" (top 99)
  d__law_any : DefAt K mg "_law_any" (top 100)
  d__law_opened : DefAt K mg "_law_opened" (top 101)
  d__law_told : DefAt K mg "_law_told" (top 102)
  d__law_near : DefAt K mg "_law_near" (top 103)
  d__law_owed : DefAt K mg "_law_owed" (top 104)
  d__law_house_right : DefAt K mg "_law_house_right" (top 105)
  d__law_year_right : DefAt K mg "_law_year_right" (top 106)
  d__law_asked_right : DefAt K mg "_law_asked_right" (top 107)
  d__law_closed : DefAt K mg "_law_closed" (top 108)
  d__law_going_right : DefAt K mg "_law_going_right" (top 109)
  d__law_hand_right : DefAt K mg "_law_hand_right" (top 110)
  d_law : DefAt K mg "law" (top 111)
  d_Term_init : MakAt K mg cTerm "Term" "Term.__init__" (inClass (top 60) 0)
  d_Term_in_hand : MetAt K cTerm "in_hand" "Term.in_hand" (inClass (top 60) 1)
  d_Books_init : MakAt K mg cBooks "Books" "Books.__init__" (inClass (top 61) 0)
  d_Books_other : MetAt K cBooks "other" "Books.other" (inClass (top 61) 1)
  d_Books_rows_of_half : MetAt K cBooks "rows_of_half" "Books.rows_of_half" (inClass (top 61) 2)
  d_Books_all_rows : MetAt K cBooks "all_rows" "Books.all_rows" (inClass (top 61) 3)
  d_Books_paid_by : MetAt K cBooks "paid_by" "Books.paid_by" (inClass (top 61) 4)
  d_Books_account_of : MetAt K cBooks "account_of" "Books.account_of" (inClass (top 61) 5)
  d_Books_all_holders : MetAt K cBooks "all_holders" "Books.all_holders" (inClass (top 61) 6)
  d_Books_term_of : MetAt K cBooks "term_of" "Books.term_of" (inClass (top 61) 7)
  d_Books_with_term : MetAt K cBooks "with_term" "Books.with_term" (inClass (top 61) 8)
  d_Ledger_init : MakAt K mg cLedger "Ledger" "Ledger.__init__" (inClass (top 85) 0)
  d_Ledger_do : MetAt K cLedger "do" "Ledger.do" (inClass (top 85) 1)
  d_Ledger_year : MetAt K cLedger "year" "Ledger.year" (inClass (top 85) 3)
  d_Ledger_day : MetAt K cLedger "day" "Ledger.day" (inClass (top 85) 4)
  d_Ledger_county : MetAt K cLedger "county" "Ledger.county" (inClass (top 85) 5)
  d_Ledger_total : MetAt K cLedger "total" "Ledger.total" (inClass (top 85) 6)
  d_Ledger_excused : MetAt K cLedger "excused" "Ledger.excused" (inClass (top 85) 7)
  d_Ledger_demanded : MetAt K cLedger "demanded" "Ledger.demanded" (inClass (top 85) 8)
  d_Ledger_due : MetAt K cLedger "due" "Ledger.due" (inClass (top 85) 9)
  d_Ledger_need_parish : MetAt K cLedger "need_parish" "Ledger.need_parish" (inClass (top 85) 12)
  d_Ledger_terms : MetAt K cLedger "terms" "Ledger.terms" (inClass (top 85) 13)
  d_Ledger_term_told : MetAt K cLedger "term_told" "Ledger.term_told" (inClass (top 85) 14)
  d_Ledger_hand : MetAt K cLedger "hand" "Ledger.hand" (inClass (top 85) 16)
  d_Ledger_copy : MetAt K cLedger "copy" "Ledger.copy" (inClass (top 85) 21)
  f_len : mg "len" = none
  f_sum : mg "sum" = none
  f_all : mg "all" = none
  f_any : mg "any" = none
  f_isinstance : mg "isinstance" = none
  f_int : mg "int" = none
  f_str : mg "str" = none
  f_tuple : mg "tuple" = none
  f_bool : mg "bool" = none
  f_list : mg "list" = none
  f_dict : mg "dict" = none
  f_set : mg "set" = none
  f_sorted : mg "sorted" = none
  f_zip : mg "zip" = none
  f_enumerate : mg "enumerate" = none
  f_range : mg "range" = none
  f_max : mg "max" = none
  f_min : mg "min" = none
  f_repr : mg "repr" = none
  f_ValueError : mg "ValueError" = none
  c_MOST_LETTERS : ∃ u, mg "MOST_LETTERS" = some u ∧ RelV (.int 8) u
  c_LAST_DAY : ∃ u, mg "LAST_DAY" = some u ∧ RelV (.int 360) u
  c_MOST_WORTH : ∃ u, mg "MOST_WORTH" = some u ∧ RelV (.int 9999) u
  c_MOST_HOLDINGS : ∃ u, mg "MOST_HOLDINGS" = some u ∧ RelV (.int 12) u
  c_MOST_IN_PARISH : ∃ u, mg "MOST_IN_PARISH" = some u ∧ RelV (.int 20) u
  c_MOST_PARISHES : ∃ u, mg "MOST_PARISHES" = some u ∧ RelV (.int 8) u
  c_MOST_HOUSES : ∃ u, mg "MOST_HOUSES" = some u ∧ RelV (.int 60) u
  c_MOST_SUM : ∃ u, mg "MOST_SUM" = some u ∧ RelV (.int 1000000000) u
  c_MOST_EXCUSED : ∃ u, mg "MOST_EXCUSED" = some u ∧ RelV (.int 40) u
  c_MOST_TERMS : ∃ u, mg "MOST_TERMS" = some u ∧ RelV (.int 20) u
  c_MOST_NUMBER : ∃ u, mg "MOST_NUMBER" = some u ∧ RelV (.int 200) u
  c_MOST_DEEDS : ∃ u, mg "MOST_DEEDS" = some u ∧ RelV (.int 200) u
  c_MOST_YEARS : ∃ u, mg "MOST_YEARS" = some u ∧ RelV (.int 20) u
  c_LETTERS : ∃ u, mg "LETTERS" = some u ∧ RelV (.str "abcdefghijklmnopqrstuvwxyz") u
  c_BARRED : ∃ u, mg "BARRED" = some u ∧ RelV (.ref bA) u
  s_BARRED : ∀ H : Hp, SqT K H bA [.str "parish", .str "house", .str "held"]
  c_PARTS : ∃ u, mg "PARTS" = some u ∧ RelV (.ref kP) u
  c_BOUNDS : ∃ u, mg "BOUNDS" = some u ∧ RelV (.ref kB) u
  k_PARTS : KDict K w kP eP nP
  k_BOUNDS : KDict K w kB eB nB
  t_PARTS : ∀ p ∈ partsTab, ∃ u, PySem.W.nsIn K kP p.1 = some (some u) ∧ RelV (.str p.2) u
  t_BOUNDS : ∀ p ∈ boundsTab, ∃ a, PySem.W.nsIn K kB p.1 = some (some (.ref a)) ∧ ∀ H : Hp, SqT K H a [.int p.2.1, .int p.2.2]
  g_RollError : mg "RollError" = some (.ref eRollError)
  g_BadName : mg "BadName" = some (.ref eBadName)
  g_BadSum : mg "BadSum" = some (.ref eBadSum)
  g_BadWeights : mg "BadWeights" = some (.ref eBadWeights)
  g_BadHalf : mg "BadHalf" = some (.ref eBadHalf)
  g_BadDay : mg "BadDay" = some (.ref eBadDay)
  g_BadCounty : mg "BadCounty" = some (.ref eBadCounty)
  g_BadExcused : mg "BadExcused" = some (.ref eBadExcused)
  g_BadAppeal : mg "BadAppeal" = some (.ref eBadAppeal)
  g_BadText : mg "BadText" = some (.ref eBadText)
  g_BadDeed : mg "BadDeed" = some (.ref eBadDeed)
  g_BadTerm : mg "BadTerm" = some (.ref eBadTerm)
  g_BadPaper : mg "BadPaper" = some (.ref eBadPaper)
  g_BadStory : mg "BadStory" = some (.ref eBadStory)
  x_BadDeed : PySem.W.excIn K eBadDeed [.type "ValueError", .type "Exception", .type "BaseException", .type "object"] "ValueError.__new__" = true
  kp_BadDeed : PySem.W.keepIn K (.ref eBadDeed) = true
  b_BadDeed : PySem.W.subIn K (.ref eBadDeed) (.type "BaseException") = some true
  t_BadDeed : PySem.W.typeIn K (.ref eBadDeed) = some (.type "type")
  x_BadAppeal : PySem.W.excIn K eBadAppeal [.type "ValueError", .type "Exception", .type "BaseException", .type "object"] "ValueError.__new__" = true
  kp_BadAppeal : PySem.W.keepIn K (.ref eBadAppeal) = true
  b_BadAppeal : PySem.W.subIn K (.ref eBadAppeal) (.type "BaseException") = some true
  t_BadAppeal : PySem.W.typeIn K (.ref eBadAppeal) = some (.type "type")
  m_BadAppeal : PySem.W.exmOne K (.ref eBadAppeal) (.ref eBadAppeal) = some true
  m_BadDeed : PySem.W.exmOne K (.ref eBadDeed) (.ref eRollError) = some true
  o_BadName : PySem.W.kitOne K (.ref eBadDeed) (.ref eBadName) = some false
  o_BadSum : PySem.W.kitOne K (.ref eBadDeed) (.ref eBadSum) = some false
  o_BadWeights : PySem.W.kitOne K (.ref eBadDeed) (.ref eBadWeights) = some false
  o_BadHalf : PySem.W.kitOne K (.ref eBadDeed) (.ref eBadHalf) = some false
  o_BadDay : PySem.W.kitOne K (.ref eBadDeed) (.ref eBadDay) = some false
  o_BadCounty : PySem.W.kitOne K (.ref eBadDeed) (.ref eBadCounty) = some false
  o_BadExcused : PySem.W.kitOne K (.ref eBadDeed) (.ref eBadExcused) = some false
  o_BadAppeal : PySem.W.kitOne K (.ref eBadDeed) (.ref eBadAppeal) = some false
  o_BadText : PySem.W.kitOne K (.ref eBadDeed) (.ref eBadText) = some false
  o_BadDeed : PySem.W.kitOne K (.ref eBadDeed) (.ref eBadDeed) = some true
  o_BadTerm : PySem.W.kitOne K (.ref eBadDeed) (.ref eBadTerm) = some false
  o_BadPaper : PySem.W.kitOne K (.ref eBadDeed) (.ref eBadPaper) = some false
  o_BadStory : PySem.W.kitOne K (.ref eBadDeed) (.ref eBadStory) = some false
  ec_BadDeed : ExcC K eBadDeed
  o_ValueError : PySem.W.kitOne K (.ref eBadDeed) (.type "ValueError") = some true
  cl_Term : Cls K cTerm
  cl_Books : Cls K cBooks
  cl_Ledger : Cls K cLedger
  n_Term_collector : NoAttr K cTerm "collector"
  n_Term_told : NoAttr K cTerm "told"
  n_Term_came : NoAttr K cTerm "came"
  n_Term_went : NoAttr K cTerm "went"
  n_Books_on_year : NoAttr K cBooks "on_year"
  n_Books_on_day : NoAttr K cBooks "on_day"
  n_Books_of_county : NoAttr K cBooks "of_county"
  n_Books_of_total : NoAttr K cBooks "of_total"
  n_Books_of_excused : NoAttr K cBooks "of_excused"
  n_Books_halves : NoAttr K cBooks "halves"
  n_Books_shut : NoAttr K cBooks "shut"
  n_Books_by_parish : NoAttr K cBooks "by_parish"
  n_Books_coming : NoAttr K cBooks "coming"
  n_Books_to_county : NoAttr K cBooks "to_county"
  n_Ledger_books : NoAttr K cLedger "books"
  n_Ledger_behind : NoAttr K cLedger "behind"
  n_Ledger_ahead : NoAttr K cLedger "ahead"
theorem len1 {α : Type} {l : List α} (h : l.length = 1) : ∃ a, l = [a] := by
  match l, h with
  | [a], _ => exact ⟨a, rfl⟩
theorem len2 {α : Type} {l : List α} (h : l.length = 2) : ∃ a b, l = [a, b] := by
  match l, h with
  | [a, b], _ => exact ⟨a, b, rfl⟩
theorem len3 {α : Type} {l : List α} (h : l.length = 3) : ∃ a b c, l = [a, b, c] := by
  match l, h with
  | [a, b, c], _ => exact ⟨a, b, c, rfl⟩
theorem len4 {α : Type} {l : List α} (h : l.length = 4) : ∃ a b c d, l = [a, b, c, d] := by
  match l, h with
  | [a, b, c, d], _ => exact ⟨a, b, c, d, rfl⟩
theorem len5 {α : Type} {l : List α} (h : l.length = 5) : ∃ a b c d e, l = [a, b, c, d, e] := by
  match l, h with
  | [a, b, c, d, e], _ => exact ⟨a, b, c, d, e, rfl⟩
end K5
set_option maxHeartbeats 0
namespace K5
open PySem PySem.Spec PyProof.Rows L2
/-! ### what the head tells -/
def tupAt (K : PySem.W.Frag) (a : Addr) (vs : List V) : Bool := match K.lookup a with
  | some ⟨.type c, _, .seq its _, _⟩ => decide (c = "tuple") && (decide (its.size ≤ sizeLine) && He.relAll vs its.toList)
  | _ => false
def boundB (K : PySem.W.Frag) (p : Str × Int × Int) : Bool := match PySem.W.nsIn K (He.ga K "BOUNDS") p.1 with
  | some (some (.ref a)) => tupAt K a [.int p.2.1, .int p.2.2]
  | _ => false
def fn0 : List He.DefD := [⟨("is_whole", none), "is_whole", "is_whole", defArgs (top 20), defBody (top 20), defScope (top 20), [], []⟩,
  ⟨("is_name", none), "is_name", "is_name", defArgs (top 21), defBody (top 21), defScope (top 21), [], []⟩,
  ⟨("is_holding", none), "is_holding", "is_holding", defArgs (top 29), defBody (top 29), defScope (top 29), [], []⟩,
  ⟨("is_house", none), "is_house", "is_house", defArgs (top 30), defBody (top 30), defScope (top 30), [], []⟩,
  ⟨("is_parish", none), "is_parish", "is_parish", defArgs (top 31), defBody (top 31), defScope (top 31), [], []⟩,
  ⟨("all_houses", none), "all_houses", "all_houses", defArgs (top 32), defBody (top 32), defScope (top 32), [], []⟩,
  ⟨("are_unlike", none), "are_unlike", "are_unlike", defArgs (top 33), defBody (top 33), defScope (top 33), [], []⟩,
  ⟨("is_county", none), "is_county", "is_county", defArgs (top 34), defBody (top 34), defScope (top 34), [], []⟩,
  ⟨("need_county", none), "need_county", "need_county", defArgs (top 35), defBody (top 35), defScope (top 35), [], []⟩,
  ⟨("need_name", none), "need_name", "need_name", defArgs (top 36), defBody (top 36), defScope (top 36), [], []⟩]
def fn1 : List He.DefD := [⟨("worth_so", none), "worth_so", "worth_so", defArgs (top 37), defBody (top 37), defScope (top 37), [], []⟩,
  ⟨("days_in", none), "days_in", "days_in", defArgs (top 38), defBody (top 38), defScope (top 38), [], []⟩,
  ⟨("empty_so", none), "empty_so", "empty_so", defArgs (top 39), defBody (top 39), defScope (top 39), [], []⟩,
  ⟨("need_sum", none), "need_sum", "need_sum", defArgs (top 42), defBody (top 42), defScope (top 42), [], []⟩,
  ⟨("share_out", none), "share_out", "share_out", defArgs (top 43), defBody (top 43), defScope (top 43), [], []⟩,
  ⟨("are_excused", none), "are_excused", "are_excused", defArgs (top 46), defBody (top 46), defScope (top 46), [], []⟩,
  ⟨("need_excused", none), "need_excused", "need_excused", defArgs (top 47), defBody (top 47), defScope (top 47), [], []⟩,
  ⟨("sums_of_parishes", none), "sums_of_parishes", "sums_of_parishes", defArgs (top 48), defBody (top 48), defScope (top 48), [], []⟩,
  ⟨("sums_of_houses", none), "sums_of_houses", "sums_of_houses", defArgs (top 49), defBody (top 49), defScope (top 49), [], []⟩,
  ⟨("parts_so", none), "parts_so", "parts_so", defArgs (top 50), defBody (top 50), defScope (top 50), [], []⟩]
def fn2 : List He.DefD := [⟨("all_parts", none), "all_parts", "all_parts", defArgs (top 51), defBody (top 51), defScope (top 51), [], []⟩,
  ⟨("need_asked", none), "need_asked", "need_asked", defArgs (top 52), defBody (top 52), defScope (top 52), [], []⟩,
  ⟨("lost", none), "lost", "lost", defArgs (top 53), defBody (top 53), defScope (top 53), [], []⟩,
  ⟨("with_worth", none), "with_worth", "with_worth", defArgs (top 55), defBody (top 55), defScope (top 55), [], []⟩,
  ⟨("won_so", none), "won_so", "won_so", defArgs (top 56), defBody (top 56), defScope (top 56), [], []⟩,
  ⟨("changed", none), "changed", "changed", defArgs (top 57), defBody (top 57), defScope (top 57), [], []⟩,
  ⟨("need", none), "need", "need", defArgs (top 59), defBody (top 59), defScope (top 59), [], []⟩,
  ⟨("Term", some "__init__"), "__init__", "Term.__init__", defArgs (inClass (top 60) 0), defBody (inClass (top 60) 0), defScope (inClass (top 60) 0), [], []⟩,
  ⟨("Term", some "in_hand"), "in_hand", "Term.in_hand", defArgs (inClass (top 60) 1), defBody (inClass (top 60) 1), defScope (inClass (top 60) 1), [], []⟩,
  ⟨("Books", some "__init__"), "__init__", "Books.__init__", defArgs (inClass (top 61) 0), defBody (inClass (top 61) 0), defScope (inClass (top 61) 0), [], []⟩]
def fn3 : List He.DefD := [⟨("Books", some "other"), "other", "Books.other", defArgs (inClass (top 61) 1), defBody (inClass (top 61) 1), defScope (inClass (top 61) 1), [], []⟩,
  ⟨("Books", some "rows_of_half"), "rows_of_half", "Books.rows_of_half", defArgs (inClass (top 61) 2), defBody (inClass (top 61) 2), defScope (inClass (top 61) 2), [], []⟩,
  ⟨("Books", some "all_rows"), "all_rows", "Books.all_rows", defArgs (inClass (top 61) 3), defBody (inClass (top 61) 3), defScope (inClass (top 61) 3), [], []⟩,
  ⟨("Books", some "paid_by"), "paid_by", "Books.paid_by", defArgs (inClass (top 61) 4), defBody (inClass (top 61) 4), defScope (inClass (top 61) 4), [], []⟩,
  ⟨("Books", some "account_of"), "account_of", "Books.account_of", defArgs (inClass (top 61) 5), defBody (inClass (top 61) 5), defScope (inClass (top 61) 5), [], []⟩,
  ⟨("Books", some "all_holders"), "all_holders", "Books.all_holders", defArgs (inClass (top 61) 6), defBody (inClass (top 61) 6), defScope (inClass (top 61) 6), [], []⟩,
  ⟨("Books", some "term_of"), "term_of", "Books.term_of", defArgs (inClass (top 61) 7), defBody (inClass (top 61) 7), defScope (inClass (top 61) 7), [], []⟩,
  ⟨("Books", some "with_term"), "with_term", "Books.with_term", defArgs (inClass (top 61) 8), defBody (inClass (top 61) 8), defScope (inClass (top 61) 8), [], []⟩,
  ⟨("is_part", none), "is_part", "is_part", defArgs (top 68), defBody (top 68), defScope (top 68), [], []⟩,
  ⟨("has_deed_form", none), "has_deed_form", "has_deed_form", defArgs (top 69), defBody (top 69), defScope (top 69), [], []⟩]
def fn4 : List He.DefD := [⟨("with_holdings", none), "with_holdings", "with_holdings", defArgs (top 72), defBody (top 72), defScope (top 72), [], []⟩,
  ⟨("house_in", none), "house_in", "house_in", defArgs (top 73), defBody (top 73), defScope (top 73), [], []⟩,
  ⟨("come_in", none), "come_in", "come_in", defArgs (top 74), defBody (top 74), defScope (top 74), [], []⟩,
  ⟨("go_out", none), "go_out", "go_out", defArgs (top 75), defBody (top 75), defScope (top 75), [], []⟩,
  ⟨("do_day", none), "do_day", "do_day", defArgs (top 76), defBody (top 76), defScope (top 76), [], []⟩,
  ⟨("do_people", none), "do_people", "do_people", defArgs (top 77), defBody (top 77), defScope (top 77), [], []⟩,
  ⟨("do_worth", none), "do_worth", "do_worth", defArgs (top 78), defBody (top 78), defScope (top 78), [], []⟩,
  ⟨("do_demand", none), "do_demand", "do_demand", defArgs (top 79), defBody (top 79), defScope (top 79), [], []⟩,
  ⟨("do_close", none), "do_close", "do_close", defArgs (top 80), defBody (top 80), defScope (top 80), [], []⟩,
  ⟨("do_term", none), "do_term", "do_term", defArgs (top 81), defBody (top 81), defScope (top 81), [], []⟩]
def fn5 : List He.DefD := [⟨("do_pay", none), "do_pay", "do_pay", defArgs (top 82), defBody (top 82), defScope (top 82), [], []⟩,
  ⟨("do_hand", none), "do_hand", "do_hand", defArgs (top 83), defBody (top 83), defScope (top 83), [], []⟩,
  ⟨("led", none), "led", "led", defArgs (top 84), defBody (top 84), defScope (top 84), [], []⟩,
  ⟨("Ledger", some "__init__"), "__init__", "Ledger.__init__", defArgs (inClass (top 85) 0), defBody (inClass (top 85) 0), defScope (inClass (top 85) 0), [], []⟩,
  ⟨("Ledger", some "do"), "do", "Ledger.do", defArgs (inClass (top 85) 1), defBody (inClass (top 85) 1), defScope (inClass (top 85) 1), [], []⟩,
  ⟨("Ledger", some "year"), "year", "Ledger.year", defArgs (inClass (top 85) 3), defBody (inClass (top 85) 3), defScope (inClass (top 85) 3), [], []⟩,
  ⟨("Ledger", some "day"), "day", "Ledger.day", defArgs (inClass (top 85) 4), defBody (inClass (top 85) 4), defScope (inClass (top 85) 4), [], []⟩,
  ⟨("Ledger", some "county"), "county", "Ledger.county", defArgs (inClass (top 85) 5), defBody (inClass (top 85) 5), defScope (inClass (top 85) 5), [], []⟩,
  ⟨("Ledger", some "total"), "total", "Ledger.total", defArgs (inClass (top 85) 6), defBody (inClass (top 85) 6), defScope (inClass (top 85) 6), [], []⟩,
  ⟨("Ledger", some "excused"), "excused", "Ledger.excused", defArgs (inClass (top 85) 7), defBody (inClass (top 85) 7), defScope (inClass (top 85) 7), [], []⟩]
def fn6 : List He.DefD := [⟨("Ledger", some "demanded"), "demanded", "Ledger.demanded", defArgs (inClass (top 85) 8), defBody (inClass (top 85) 8), defScope (inClass (top 85) 8), [], []⟩,
  ⟨("Ledger", some "due"), "due", "Ledger.due", defArgs (inClass (top 85) 9), defBody (inClass (top 85) 9), defScope (inClass (top 85) 9), [], []⟩,
  ⟨("Ledger", some "need_parish"), "need_parish", "Ledger.need_parish", defArgs (inClass (top 85) 12), defBody (inClass (top 85) 12), defScope (inClass (top 85) 12), [], []⟩,
  ⟨("Ledger", some "terms"), "terms", "Ledger.terms", defArgs (inClass (top 85) 13), defBody (inClass (top 85) 13), defScope (inClass (top 85) 13), [], []⟩,
  ⟨("Ledger", some "term_told"), "term_told", "Ledger.term_told", defArgs (inClass (top 85) 14), defBody (inClass (top 85) 14), defScope (inClass (top 85) 14), [], []⟩,
  ⟨("Ledger", some "hand"), "hand", "Ledger.hand", defArgs (inClass (top 85) 16), defBody (inClass (top 85) 16), defScope (inClass (top 85) 16), [], []⟩,
  ⟨("Ledger", some "copy"), "copy", "Ledger.copy", defArgs (inClass (top 85) 21), defBody (inClass (top 85) 21), defScope (inClass (top 85) 21), [], []⟩,
  ⟨("_law_mixed", none), "_law_mixed", "_law_mixed", defArgs (top 87), defBody (top 87), defScope (top 87), [], []⟩,
  ⟨("_law_folded", none), "_law_folded", "_law_folded", defArgs (top 88), defBody (top 88), defScope (top 88), [], []⟩,
  ⟨("_law_draw", none), "_law_draw", "_law_draw", defArgs (top 89), defBody (top 89), defScope (top 89), [], []⟩]
def fn7 : List He.DefD := [⟨("_law_begun", none), "_law_begun", "_law_begun", defArgs (top 90), defBody (top 90), defScope (top 90), [], []⟩,
  ⟨("_law_called", none), "_law_called", "_law_called", defArgs (top 91), defBody (top 91), defScope (top 91), [], []⟩,
  ⟨("_law_people", none), "_law_people", "_law_people", defArgs (top 92), defBody (top 92), defScope (top 92), [], []⟩,
  ⟨("_law_holdings", none), "_law_holdings", "_law_holdings", defArgs (top 93), defBody (top 93), defScope (top 93), [], []⟩,
  ⟨("_law_worth", none), "_law_worth", "_law_worth", defArgs (top 94), defBody (top 94), defScope (top 94), [], []⟩,
  ⟨("_law_county", none), "_law_county", "_law_county", defArgs (top 95), defBody (top 95), defScope (top 95), [], []⟩,
  ⟨("_law_sum", none), "_law_sum", "_law_sum", defArgs (top 96), defBody (top 96), defScope (top 96), [], []⟩,
  ⟨("_law_excused", none), "_law_excused", "_law_excused", defArgs (top 97), defBody (top 97), defScope (top 97), [], []⟩,
  ⟨("_law_worths", none), "_law_worths", "_law_worths", defArgs (top 98), defBody (top 98), defScope (top 98), [], []⟩,
  ⟨("_law_deed", none), "_law_deed", "_law_deed", defArgs (top 99), defBody (top 99), defScope (top 99), [], []⟩]
def fn8 : List He.DefD := [⟨("_law_any", none), "_law_any", "_law_any", defArgs (top 100), defBody (top 100), defScope (top 100), [], []⟩,
  ⟨("_law_opened", none), "_law_opened", "_law_opened", defArgs (top 101), defBody (top 101), defScope (top 101), [], []⟩,
  ⟨("_law_told", none), "_law_told", "_law_told", defArgs (top 102), defBody (top 102), defScope (top 102), [], []⟩,
  ⟨("_law_near", none), "_law_near", "_law_near", defArgs (top 103), defBody (top 103), defScope (top 103), [], []⟩,
  ⟨("_law_owed", none), "_law_owed", "_law_owed", defArgs (top 104), defBody (top 104), defScope (top 104), [], []⟩,
  ⟨("_law_house_right", none), "_law_house_right", "_law_house_right", defArgs (top 105), defBody (top 105), defScope (top 105), [], []⟩,
  ⟨("_law_year_right", none), "_law_year_right", "_law_year_right", defArgs (top 106), defBody (top 106), defScope (top 106), [], []⟩,
  ⟨("_law_asked_right", none), "_law_asked_right", "_law_asked_right", defArgs (top 107), defBody (top 107), defScope (top 107), [], []⟩,
  ⟨("_law_closed", none), "_law_closed", "_law_closed", defArgs (top 108), defBody (top 108), defScope (top 108), [], []⟩,
  ⟨("_law_going_right", none), "_law_going_right", "_law_going_right", defArgs (top 109), defBody (top 109), defScope (top 109), [], []⟩]
def fn9 : List He.DefD := [⟨("_law_hand_right", none), "_law_hand_right", "_law_hand_right", defArgs (top 110), defBody (top 110), defScope (top 110), [], []⟩,
  ⟨("law", none), "law", "law", defArgs (top 111), defBody (top 111), defScope (top 111), [], []⟩]
def fn : List He.DefD := fn0 ++ (fn1 ++ (fn2 ++ (fn3 ++ (fn4 ++ (fn5 ++ (fn6 ++ (fn7 ++ (fn8 ++ (fn9)))))))))
def fa0 : List He.Fa := [.glo "is_whole", .glo "is_name", .glo "is_holding", .glo "is_house", .glo "is_parish", .glo "all_houses", .glo "are_unlike", .glo "is_county", .glo "need_county", .glo "need_name"]
def fa1 : List He.Fa := [.glo "worth_so", .glo "days_in", .glo "empty_so", .glo "need_sum", .glo "share_out", .glo "are_excused", .glo "need_excused", .glo "sums_of_parishes", .glo "sums_of_houses", .glo "parts_so"]
def fa2 : List He.Fa := [.glo "all_parts", .glo "need_asked", .glo "lost", .glo "with_worth", .glo "won_so", .glo "changed", .glo "need", .glo "is_part", .glo "has_deed_form", .glo "with_holdings"]
def fa3 : List He.Fa := [.glo "house_in", .glo "come_in", .glo "go_out", .glo "do_day", .glo "do_people", .glo "do_worth", .glo "do_demand", .glo "do_close", .glo "do_term", .glo "do_pay"]
def fa4 : List He.Fa := [.glo "do_hand", .glo "led", .glo "_law_mixed", .glo "_law_folded", .glo "_law_draw", .glo "_law_begun", .glo "_law_called", .glo "_law_people", .glo "_law_holdings", .glo "_law_worth"]
def fa5 : List He.Fa := [.glo "_law_county", .glo "_law_sum", .glo "_law_excused", .glo "_law_worths", .glo "_law_deed", .glo "_law_any", .glo "_law_opened", .glo "_law_told", .glo "_law_near", .glo "_law_owed"]
def fa6 : List He.Fa := [.glo "_law_house_right", .glo "_law_year_right", .glo "_law_asked_right", .glo "_law_closed", .glo "_law_going_right", .glo "_law_hand_right", .glo "law", .glo "Term", .cls "Term", .glo "Books"]
def fa7 : List He.Fa := [.cls "Books", .glo "Ledger", .cls "Ledger", .meth "Term" "in_hand", .meth "Books" "other", .meth "Books" "rows_of_half", .meth "Books" "all_rows", .meth "Books" "paid_by", .meth "Books" "account_of", .meth "Books" "all_holders"]
def fa8 : List He.Fa := [.meth "Books" "term_of", .meth "Books" "with_term", .meth "Ledger" "do", .meth "Ledger" "year", .meth "Ledger" "day", .meth "Ledger" "county", .meth "Ledger" "total", .meth "Ledger" "excused", .meth "Ledger" "demanded", .meth "Ledger" "due"]
def fa9 : List He.Fa := [.meth "Ledger" "need_parish", .meth "Ledger" "terms", .meth "Ledger" "term_told", .meth "Ledger" "hand", .meth "Ledger" "copy", .mkr "Term", .mkr "Books", .mkr "Ledger", .glo "RollError", .glo "BadName"]
def fa10 : List He.Fa := [.glo "BadSum", .glo "BadWeights", .glo "BadHalf", .glo "BadDay", .glo "BadCounty", .glo "BadExcused", .glo "BadAppeal", .glo "BadText", .glo "BadDeed", .glo "BadTerm"]
def fa11 : List He.Fa := [.glo "BadPaper", .glo "BadStory", .glo "BARRED", .glo "PARTS", .glo "BOUNDS", .free "len", .free "sum", .free "all", .free "any", .free "isinstance"]
def fa12 : List He.Fa := [.free "int", .free "str", .free "tuple", .free "bool", .free "list", .free "dict", .free "set", .free "sorted", .free "zip", .free "enumerate"]
def fa13 : List He.Fa := [.free "range", .free "max", .free "min", .free "repr", .free "ValueError", .int "MOST_LETTERS" 8, .int "LAST_DAY" 360, .int "MOST_WORTH" 9999, .int "MOST_HOLDINGS" 12, .int "MOST_IN_PARISH" 20]
def fa14 : List He.Fa := [.int "MOST_PARISHES" 8, .int "MOST_HOUSES" 60, .int "MOST_SUM" 1000000000, .int "MOST_EXCUSED" 40, .int "MOST_TERMS" 20, .int "MOST_NUMBER" 200, .int "MOST_DEEDS" 200, .int "MOST_YEARS" 20, .str "LETTERS" "abcdefghijklmnopqrstuvwxyz", .exc "BadDeed"]
def fa15 : List He.Fa := [.exc "BadAppeal", .exm "BadAppeal" "BadAppeal" true, .exm "BadDeed" "RollError" true, .noat "Term" "collector", .noat "Term" "told", .noat "Term" "came", .noat "Term" "went", .noat "Books" "on_year", .noat "Books" "on_day", .noat "Books" "of_county"]
def fa16 : List He.Fa := [.noat "Books" "of_total", .noat "Books" "of_excused", .noat "Books" "halves", .noat "Books" "shut", .noat "Books" "by_parish", .noat "Books" "coming", .noat "Books" "to_county", .noat "Ledger" "books", .noat "Ledger" "behind", .noat "Ledger" "ahead"]
def fa : List He.Fa := fa0 ++ (fa1 ++ (fa2 ++ (fa3 ++ (fa4 ++ (fa5 ++ (fa6 ++ (fa7 ++ (fa8 ++ (fa9 ++ (fa10 ++ (fa11 ++ (fa12 ++ (fa13 ++ (fa14 ++ (fa15 ++ (fa16))))))))))))))))
def ex0 (K : PySem.W.Frag) : List Bool := [tupAt K (He.ga K "BARRED") [.str "parish", .str "house", .str "held"],
  He.valsB K (He.ga K "PARTS") (partsTab.map fun p => (p.1, He.Dv.str p.2)),
  boundsTab.all fun p => boundB K p,
  decide (PySem.W.kitOne K (.ref (He.ga K "BadDeed")) (.ref (He.ga K "BadName")) = some false),
  decide (PySem.W.kitOne K (.ref (He.ga K "BadDeed")) (.ref (He.ga K "BadSum")) = some false),
  decide (PySem.W.kitOne K (.ref (He.ga K "BadDeed")) (.ref (He.ga K "BadWeights")) = some false),
  decide (PySem.W.kitOne K (.ref (He.ga K "BadDeed")) (.ref (He.ga K "BadHalf")) = some false),
  decide (PySem.W.kitOne K (.ref (He.ga K "BadDeed")) (.ref (He.ga K "BadDay")) = some false),
  decide (PySem.W.kitOne K (.ref (He.ga K "BadDeed")) (.ref (He.ga K "BadCounty")) = some false),
  decide (PySem.W.kitOne K (.ref (He.ga K "BadDeed")) (.ref (He.ga K "BadExcused")) = some false)]
def ex1 (K : PySem.W.Frag) : List Bool := [decide (PySem.W.kitOne K (.ref (He.ga K "BadDeed")) (.ref (He.ga K "BadAppeal")) = some false),
  decide (PySem.W.kitOne K (.ref (He.ga K "BadDeed")) (.ref (He.ga K "BadText")) = some false),
  decide (PySem.W.kitOne K (.ref (He.ga K "BadDeed")) (.ref (He.ga K "BadDeed")) = some true),
  decide (PySem.W.kitOne K (.ref (He.ga K "BadDeed")) (.ref (He.ga K "BadTerm")) = some false),
  decide (PySem.W.kitOne K (.ref (He.ga K "BadDeed")) (.ref (He.ga K "BadPaper")) = some false),
  decide (PySem.W.kitOne K (.ref (He.ga K "BadDeed")) (.ref (He.ga K "BadStory")) = some false),
  decide (PySem.W.kitOne K (.ref (He.ga K "BadDeed")) (.type "ValueError") = some true),
  He.eqO (PySem.W.findIn K (.ref (He.ga K "BadDeed")) "__getattribute__") (some (some (.builtin "BaseException.__getattribute__"))),
  He.eqO (PySem.W.findIn K (.ref (He.ga K "BadDeed")) "__getattr__") (some none),
  decide (PySem.W.subIn K (.ref (He.ga K "BadDeed")) (.type "BaseException") = some true)]
def ex2 (K : PySem.W.Frag) : List Bool := [PySem.W.hasDictIn K (He.ga K "BadDeed"),
  He.eqO (PySem.W.findIn K (.ref (He.ga K "BadDeed")) "__class__") (some (some (.builtin "object.__class__"))),
  He.eqO (PySem.W.specialIn K (.builtin "object.__class__") "__get__") (some (some (.builtin "getset_descriptor.__get__"))),
  decide (PySem.W.takesIn K (.builtin "object.__class__") = some true),
  decide (PySem.W.mroIn K (He.ga K "BadDeed") (.type "object") = some true)]
def exL (K : PySem.W.Frag) : List Bool := ex0 K ++ (ex1 K ++ (ex2 K))
def exB (K : PySem.W.Frag) : Bool := (exL K).all fun b => b
def ksP : List Str := ["day", "come", "go", "move", "worth", "excuse", "charge", "demand", "close", "term", "pay", "hand", "pass", "back", "again"]
def ksB : List Str := ["d", "w", "h", "s", "t", "r"]
def tsH : List He.Tab := [((fun K => He.ga K "PARTS"), ksP), ((fun K => He.ga K "BOUNDS"), ksB)]
def tfH : List He.Defn := [("_law_going_right", none)]
def names0 : List PySem.Str := ["_wall", "__name__", "RollError", "BadName", "BadSum", "BadWeights", "BadHalf", "BadDay", "BadCounty", "BadExcused", "BadAppeal", "BadText"]
def names1 : List PySem.Str := ["BadDeed", "BadTerm", "BadPaper", "BadStory", "LETTERS", "MOST_LETTERS", "BARRED", "is_whole", "is_name", "LAST_DAY", "MOST_WORTH", "MOST_HOLDINGS"]
def names2 : List PySem.Str := ["MOST_IN_PARISH", "MOST_PARISHES", "MOST_HOUSES", "is_holding", "is_house", "is_parish", "all_houses", "are_unlike", "is_county", "need_county", "need_name", "worth_so"]
def names3 : List PySem.Str := ["days_in", "empty_so", "MOST_SUM", "need_sum", "share_out", "MOST_EXCUSED", "are_excused", "need_excused", "sums_of_parishes", "sums_of_houses", "parts_so", "all_parts"]
def names4 : List PySem.Str := ["need_asked", "lost", "with_worth", "won_so", "changed", "need", "Term", "Books", "MOST_TERMS", "MOST_NUMBER", "MOST_DEEDS", "PARTS"]
def names5 : List PySem.Str := ["BOUNDS", "is_part", "has_deed_form", "MOST_YEARS", "with_holdings", "house_in", "come_in", "go_out", "do_day", "do_people", "do_worth", "do_demand"]
def names6 : List PySem.Str := ["do_close", "do_term", "do_pay", "do_hand", "led", "Ledger", "_law_mixed", "_law_folded", "_law_draw", "_law_begun", "_law_called", "_law_people"]
def names7 : List PySem.Str := ["_law_holdings", "_law_worth", "_law_county", "_law_sum", "_law_excused", "_law_worths", "_law_deed", "_law_any", "_law_opened", "_law_told", "_law_near", "_law_owed"]
def names8 : List PySem.Str := ["_law_house_right", "_law_year_right", "_law_asked_right", "_law_closed", "_law_going_right", "_law_hand_right"]
def names : List PySem.Str := names0 ++ names1 ++ names2 ++ names3 ++ names4 ++ names5 ++ names6 ++ names7 ++ names8

abbrev RR : PySem.W.OpenRow := PySem.W.OpenLaw.row PySem.Challenge.rw_pennyroll_k52_whole_to_the_penny
abbrev qv : Program := PySem.W.view RR.prog [111]
/-- what an object leads to: a dict's values, a def's code, a class's names -/
def leads (g : Addr → Option Obj) (a : Addr) : List Addr := match g a with
  | some o => (match o.data with
    | .dict es _ => es.toList.flatMap fun e => He.refV e.val
    | .func fd => He.refV fd.code
    | .cls cd => [cd.ns]
    | _ => [])
  | none => []
def near4 (g : Addr → Option Obj) : List Addr :=
  (fun l1 => (fun l2 => (fun l3 => (fun l4 => mainGlobals :: (l1 ++ (l2 ++ (l3 ++ l4)))) (l3.flatMap (leads g))) (l2.flatMap (leads g))) (l1.flatMap (leads g))) (leads g mainGlobals)
def obsK (g : Addr → Option Obj) (K : PySem.W.Frag) : He.AlX := (He.obsT fa fn tsH K, exB K && He.tabsB g tfH K)
def obsY (g : Addr → Option Obj) : He.AlX := obsK g (He.frT g (near4 g))
theorem says_of {w : World} {h : Heap} (e : obsY h.get? = He.valX fn tsH w) : He.SaysX fa fn tsH tfH exB w h (He.frT h.get? (near4 h.get?)) := by
  unfold obsY at e
  generalize hK : He.frT h.get? (near4 h.get?) = K at e ⊢
  have a1 : He.obsT fa fn tsH K = He.valT fn tsH w := congrArg Prod.fst e
  have a2 : (exB K && He.tabsB h.get? tfH K) = true := congrArg Prod.snd e
  rw [Bool.and_eq_true] at a2
  have tab : ∀ p ∈ tfH, PySem.W.codeHdIn K (He.cT K p).1 (He.cT K p).2 = true ∧ ∃ o, h.get? (He.cT K p).2 = some o ∧ He.emptyTab o = true := fun p hp => by
    have b := List.all_eq_true.mp a2.2 p hp
    rw [Bool.and_eq_true] at b
    cases q : h.get? (He.cT K p).2 with
    | none => rw [q] at b; cases b.2
    | some o => rw [q] at b; exact ⟨b.1, o, rfl, b.2⟩
  exact {
    t := a1
    more := a2.1
    hd := fun p hp => (tab p hp).1
    out := fun p hp => by
      obtain ⟨_, o, q, z⟩ := tab p hp
      rw [← hK] at q ⊢
      exact He.frT_none q z
    empty := fun p hp => by
      obtain ⟨_, o, q, z⟩ := tab p hp
      rw [q, He.emptyTab_eq z] }
def hkH : PySem.W.Hook where
  α := He.AlX
  obs := fun s => obsY s.heap.get?
  val := fun w => He.valX fn tsH w
  says := fun w h => ∃ K : PySem.W.Frag, K.In h ∧ He.SaysX fa fn tsH tfH exB w h K
  of := fun _ _ e => ⟨_, He.frT_in, says_of e⟩
  keeps := fun _ _ _ ⟨K, i, c⟩ k => ⟨K, i.keeps k, { t := c.t, more := c.more, hd := c.hd, out := c.out, empty := fun p hp => k _ _ (c.empty p hp) }⟩
def obH (s : PySem.W.SharedT) : He.AlX := obsY (HandSHeadRun.getT s)
theorem obH_eq (s : PySem.W.SharedT) : obH s = hkH.obs s.abs := by
  have e : HandSHeadRun.getT s = s.abs.heap.get? := funext fun a => HandSHeadRun.getT_eq s a
  unfold obH
  rw [e]
  rfl
theorem runF (w : World) : HandSHeadRun.RunEq RR qv hkH obH 20000 names (w.withFollow "special-get-raises" false) := by
  intro os
  kernel_rfl
theorem runT (w : World) : HandSHeadRun.RunEq RR qv hkH obH 20000 names (w.withFollow "special-get-raises" true) := by
  intro os
  kernel_rfl
theorem runH (w : World) : HandSHeadRun.RunEq RR qv hkH obH 20000 names w := PySem.W.byRow2 "special-get-raises" (P := fun w => HandSHeadRun.RunEq RR qv hkH obH 20000 names w) runF runT w
end K5
set_option maxHeartbeats 4000000
namespace K5
open PySem PySem.Spec PyProof.Rows L2
def letters : Str := "abcdefghijklmnopqrstuvwxyz"
/-- a name -/
structure NameOk (z : Str) : Prop where
  lo : 1 ≤ z.length
  hi : z.length ≤ 8
  free : inV (.str z) [.str "parish", .str "house", .str "held"] = false
  all : ∀ c ∈ z.cps.toList, c ∈ letters.cps.toList
structure HoldOk (h : Hold) : Prop where
  nm : NameOk h.1
  lo : 1 ≤ h.2.1
  mid : h.2.1 ≤ h.2.2
  hi : h.2.2 ≤ 360
def Apart (hs : List Hold) : Prop := ∀ p ∈ hs.zip (hs.drop 1), p.1.2.2 < p.2.2.1
structure HouseOk (h : House) : Prop where
  nm : NameOk h.1
  lo : 0 ≤ h.2.1
  hi : h.2.1 ≤ 9999
  len : h.2.2.length ≤ 12
  all : ∀ x ∈ h.2.2, HoldOk x
  apart : Apart h.2.2
structure ParishOk (p : Parish) : Prop where
  nm : NameOk p.1
  lo : 1 ≤ p.2.length
  hi : p.2.length ≤ 20
  all : ∀ x ∈ p.2, HouseOk x
def allHouses (c : County) : List House := c.flatMap (·.2)
structure CountyOk (c : County) : Prop where
  lo : 1 ≤ c.length
  hi : c.length ≤ 8
  all : ∀ p ∈ c, ParishOk p
  nd : (c.map (·.1)).Nodup
  len : (allHouses c).length ≤ 60
  hnd : ((allHouses c).map (·.1)).Nodup
def posC (c : County) : Bool := (allHouses c).any fun h => decide (0 < h.2.1)
def worthSo (p : Parish) : Int := (p.2.map (·.2.1)).sum
def daysIn (h : Hold) : Int := h.2.2 - h.2.1 + 1
def emptySo (h : House) : Int := 360 - (h.2.2.map daysIn).sum
theorem dT {p : Prop} [Decidable p] (h : p) : V.bl (decide p) = V.bl true := congrArg V.bl (decide_eq_true h)
theorem dF {p : Prop} [Decidable p] (h : ¬ p) : V.bl (decide p) = V.bl false := congrArg V.bl (decide_eq_false h)
theorem all_true {α : Type} (l : List α) : ((l.map fun _ => true).all id) = true := by simp
def spWhole : Sp := fun vs H Q _ => ∃ i lo hi : Int, vs = [.int i, .int lo, .int hi] ∧ Q (.bl (decide (lo ≤ i ∧ i ≤ hi))) H
def spName : Sp := fun vs H Q _ => ∃ z, vs = [.str z] ∧ NameOk z ∧ ∀ H', Same H H' → Q (.bl true) H'
def spHolding : Sp := fun vs H Q _ => ∃ v x, vs = [v] ∧ rHold H v x ∧ HoldOk x ∧ ∀ H', Same H H' → Q (.bl true) H'
def spHouse : Sp := fun vs H Q _ => ∃ v x, vs = [v] ∧ rHouse H v x ∧ HouseOk x ∧ ∀ H', Same H H' → Q (.bl true) H'
def spParish : Sp := fun vs H Q _ => ∃ v x, vs = [v] ∧ rParish H v x ∧ ParishOk x ∧ ∀ H', Same H H' → Q (.bl true) H'
section
variable {P : Program} {w : World} {K : PySem.W.Frag} {mg : Str → Option Value} {base : Heap}
abbrev N_is_whole : List Str := ["thing", "least", "most"]
theorem sc_is_whole : FnScope N_is_whole ["thing", "least", "most"] (defScope (top 20)) := ⟨rfl, rfl, rfl, by decide +kernel, rfl, by decide +kernel, by decide +kernel⟩
theorem c_is_whole (T : Txt w K mg) : Cl P w K mg base CX0 1 "is_whole" spWhole := by
  refine Cl.of T.d_is_whole sc_is_whole (fun _ _ _ _ _ _ us h => by obtain ⟨u0, u1, u2, rfl⟩ := len3 h; rfl) (fun vs H Q E h => by obtain ⟨i, lo, hi, rfl, q⟩ := h; rfl) fun f cdv A outer s H vs Q E hr h => ?_
  obtain ⟨i, lo, hi, rfl, q⟩ := h
  refine ⟨_, PSs.nox ((pss_one (ps_ret (pe_and (pe_callB isi_int (by rfl) T.f_isinstance boot_isinstance (pa_cons (pv 0) (pa_cons (pe_bltn (v := .ty "int") (by rfl) T.f_int boot_int rfl) pa_nil))) (pe_and (pe_not (pe_callB isi_bool (by rfl) T.f_isinstance boot_isinstance (pa_cons (pv 0) (pa_cons (pe_bltn (v := .ty "bool") (by rfl) T.f_bool boot_bool rfl) pa_nil)))) (pe_one (pe_chain op_le op_le (pv 1) (pv 0) (pv 2)))))))), ?_⟩
  refine ⟨_, rfl, i, rfl, true, rfl, iteT ⟨_, rfl, i, rfl, false, rfl, true, rfl, iteT ?_⟩⟩
  refine ⟨_, rfl, _, rfl, _, _, rfl, rfl, _, rfl, ite2 (fun h => ?_) (fun h => ?_)⟩
  · refine ⟨_, rfl, _, _, rfl, rfl, ?_⟩
    have h : lo ≤ i := of_decide_eq_true h
    have e : decide (lo ≤ i ∧ i ≤ hi) = decide (i ≤ hi) := by simp [h]
    rw [e] at q
    exact q
  · have e : decide (lo ≤ i ∧ i ≤ hi) = false := decide_eq_false fun z => h (decide_eq_true z.1)
    rw [e] at q
    exact q
abbrev N_is_name : List Str := ["thing", "sign"]
theorem sc_is_name : FnScope N_is_name ["thing"] (defScope (top 21)) := ⟨rfl, rfl, rfl, by decide +kernel, rfl, by decide +kernel, by decide +kernel⟩
theorem c_is_name (T : Txt w K mg) : Cl P w K mg base CX0 1 "is_name" spName := by
  refine Cl.of T.d_is_name sc_is_name (fun _ _ _ _ _ _ us h => by obtain ⟨u0, rfl⟩ := len1 h; rfl) (fun vs H Q E h => by obtain ⟨z, rfl, nz, q⟩ := h; rfl) fun f cdv A outer s H vs Q E hr h => ?_
  obtain ⟨z, rfl, nz, q⟩ := h
  refine ⟨_, PSs.nox ((pss_cons (ps_if (PW.pt (pw_or (pt_not (pt_val (pe_callB isi_str (by rfl) T.f_isinstance boot_isinstance (pa_cons (pv 0) (pa_cons (pe_bltn (v := .ty "str") (by rfl) T.f_str boot_str rfl) pa_nil))))) (pw_or (pt_not (pt_chain op_le op_le pe_int (pe_callB call_len_str (by rfl) T.f_len boot_len (pa_cons (pv 0) pa_nil)) (C8.pe_gc rfl T.c_MOST_LETTERS))) (pw_or1 (pt_cmpR op_in_seq (pv 0) (C8.pe_gc rfl T.c_BARRED) rfl))))) (pss_one (ps_ret pe_bl)) pss_nil)
  (pss_one (ps_ret (pe_callB (cr_allS rfl) (by rfl) T.f_all boot_all (pa_cons (pe_lcS (own := [("sign", 1)]) (by rfl) sc_is_name.nd (pi_str (pv 0)) (blkOk_by (own := [("sign", 1)]) (N := N_is_name) (sc := defScope (top 21)) (by decide +kernel)) (fun _ _ _ _ _ => (pg_name (i := 1) sc_is_name.nd rfl (Or.inl rfl))) (fun _ _ _ _ _ => pts_nil) (fun _ _ _ _ _ => (pe_cmpR op_in_sign (pv 1) (C8.pe_gc rfl T.c_LETTERS) rfl))) pa_nil)))))), ?_⟩
  refine ⟨_, rfl, z, rfl, true, rfl, iteF ?_⟩
  have h1 := nz.lo
  have h2 := nz.hi
  refine ⟨_, rfl, z, rfl, Nat.le_trans nz.hi (by decide), _, _, rfl, rfl, true, dT (by omega), iteT ⟨_, _, rfl, rfl, true, dT (by omega), iteF ?_⟩⟩
  refine ⟨_, rfl, T.bA, _, rfl, .inr (T.s_BARRED H), rfl, rfl, false, congrArg V.bl nz.free, iteF ?_⟩
  refine ⟨_, rfl, z, rfl, fun D hD => ?_⟩
  refine lcM (A := rS) (B := rB) (src_str (x := z)) (fun _ => true) hD (by rw [List.length_map]; exact Nat.le_trans nz.hi (by decide)) (fun _ _ => True.intro) (fun i d x H1 hd s1 r => ?_) fun acc H1 s1 ha pa => ?_
  · have r : x = .str d := r
    subst r
    rw [List.getElem?_map] at hd
    cases e : z.cps.toList[i]? with
    | none => rw [e] at hd; cases hd
    | some c =>
      rw [e] at hd
      cases hd
      exact ⟨rfl, _, rfl, c, letters, rfl, rfl, Same.refl _, congrArg V.bl (decide_eq_true (nz.all c (List.mem_of_getElem? e)))⟩
  · refine ⟨D, acc, _, rfl, ha, pa, ?_⟩
    have e : (((z.cps.toList.map sg).map fun _ => true).all id) = true := by simp
    rw [e]
    exact q _ s1
abbrev N_is_holding : List Str := ["thing"]
theorem sc_is_holding : FnScope N_is_holding ["thing"] (defScope (top 29)) := ⟨rfl, rfl, rfl, by decide +kernel, rfl, by decide +kernel, by decide +kernel⟩
theorem c_is_holding (T : Txt w K mg) : Cl P w K mg base CX0 2 "is_holding" spHolding := by
  refine Cl.of T.d_is_holding sc_is_holding (fun _ _ _ _ _ _ us h => by obtain ⟨u0, rfl⟩ := len1 h; rfl) (fun vs H Q E h => by obtain ⟨v, x, rfl, r, ok, q⟩ := h; rfl) fun f cdv A outer s H vs Q E hr h => ?_
  obtain ⟨v, x, rfl, r, ok, q⟩ := h
  refine ⟨_, PSs.nox ((pss_cons (ps_if (PW.pt (pw_or (pt_not (pt_val (pe_callB isi_tup (by rfl) T.f_isinstance boot_isinstance (pa_cons (pv 0) (pa_cons (pe_bltn (v := .ty "tuple") (by rfl) T.f_tuple boot_tuple rfl) pa_nil))))) (pw_or (pt_cmpR op_ne (pe_callB call_lenS (by rfl) T.f_len boot_len (pa_cons (pv 0) pa_nil)) pe_int (nomark _)) (pw_or1 (pt_not (pt_val (pc (c_is_name T) (hr.mono (by decide)) pass0 (pa_cons (pe_ix ix_tupS (pv 0) pe_int (fun _ _ => rfl)) pa_nil)))))))) (pss_one (ps_ret pe_bl)) pss_nil)
  (pss_one (ps_ret (pe_and (pc (c_is_whole T) (hr.mono (by decide)) pass0 (pa_cons (pe_ix ix_tupS (pv 0) pe_int (fun _ _ => rfl)) (pa_cons pe_int (pa_cons (C8.pe_gc rfl T.c_LAST_DAY) pa_nil)))) (pe_one (pc (c_is_whole T) (hr.mono (by decide)) pass0 (pa_cons (pe_ix ix_tupS (pv 0) pe_int (fun _ _ => rfl)) (pa_cons (pe_ix ix_tupS (pv 0) pe_int (fun _ _ => rfl)) (pa_cons (C8.pe_gc rfl T.c_LAST_DAY) pa_nil)))))))))), ?_⟩
  obtain ⟨z, f0, l⟩ := x
  obtain ⟨a, p, q1, q2, rfl, ha, rfl, rfl, rfl⟩ := r
  refine ⟨_, rfl, a, _, rfl, ha, true, rfl, iteF ?_⟩
  refine ⟨_, rfl, a, _, rfl, .inr ha, rfl, false, rfl, iteF ?_⟩
  refine ⟨_, rfl, a, _, 0, _, rfl, rfl, ha, rfl, z, rfl, ok.nm, fun H1 s1 => ⟨true, rfl, iteF ?_⟩⟩
  refine ⟨_, rfl, a, _, 1, _, rfl, rfl, s1 _ _ ha, rfl, f0, 1, 360, rfl, true, dT ⟨ok.lo, Int.le_trans ok.mid ok.hi⟩, iteT ?_⟩
  refine ⟨_, rfl, a, _, 2, _, rfl, rfl, s1 _ _ ha, rfl, _, rfl, a, _, 1, _, rfl, rfl, s1 _ _ ha, rfl, l, f0, 360, rfl, ?_⟩
  rw [decide_eq_true (show f0 ≤ l ∧ l ≤ 360 from ⟨ok.mid, ok.hi⟩)]
  exact q _ s1
end
end K5
set_option maxHeartbeats 4000000
namespace K5
open PySem PySem.Spec PyProof.Rows L2
/-! ### cuts -/
theorem cut_drop (xs : List V) (n : Nat) : cutV xs (some (n : Int)) none = xs.drop n := by
  unfold cutV
  rw [HT.sIx_nat, HT.sIx_none]
  by_cases h : n ≤ xs.length
  · rw [Nat.min_eq_left h, List.take_of_length_le (by rw [List.length_drop]; exact Nat.le_refl _)]
  · rw [Nat.min_eq_right (by omega), List.drop_of_length_le (Nat.le_refl _), List.drop_of_length_le (by omega)]
    simp
theorem cut_take (xs : List V) (n : Nat) : cutV xs none (some (n : Int)) = xs.take n := by
  unfold cutV
  rw [HT.sIx_nat, HT.sIx_none]
  by_cases h : n ≤ xs.length
  · rw [Nat.min_eq_left h]
    simp
  · rw [Nat.min_eq_right (by omega), List.take_of_length_le (by simp), List.take_of_length_le (by omega)]
    rfl
section
variable {α β : Type} {R : α → β → Prop}
theorem pr_drop : ∀ {xs : List α} {ys : List β} (n : Nat), Paired R xs ys → Paired R (xs.drop n) (ys.drop n)
  | _, _, 0, h => h
  | _, _, _ + 1, .nil => .nil
  | _, _, n + 1, .cons _ t => pr_drop n t
theorem pr_take : ∀ {xs : List α} {ys : List β} (n : Nat), Paired R xs ys → Paired R (xs.take n) (ys.take n)
  | _, _, 0, _ => .nil
  | _, _, _ + 1, .nil => .nil
  | _, _, n + 1, .cons r t => .cons r (pr_take n t)
theorem pr_flat {R' : List α → List β → Prop} (h : ∀ x y, R' x y → Paired R x y) : ∀ {xs : List (List α)} {ys : List (List β)}, Paired R' xs ys → Paired R xs.flatten ys.flatten
  | _, _, .nil => .nil
  | _, _, .cons r t => by
    rw [List.flatten_cons, List.flatten_cons]
    exact pr_app (h _ _ r) (pr_flat h t)
end
theorem allHouses_app (a b : County) : allHouses (a ++ b) = allHouses a ++ allHouses b := by unfold allHouses; rw [List.flatMap_append]
theorem allHouses_le (c : County) (i : Nat) : (allHouses (c.take i)).length ≤ (allHouses c).length := by
  have e : allHouses c = allHouses (c.take i) ++ allHouses (c.drop i) := by rw [← allHouses_app, List.take_append_drop]
  rw [e, List.length_append]; omega
theorem allHouses_snoc {c : County} {i : Nat} {d : Parish} (h : c[i]? = some d) : allHouses (c.take (i + 1)) = allHouses (c.take i) ++ d.2 := by
  rw [take_more h, allHouses_app]
  simp [allHouses]
def spWorthSo : Sp := fun vs H Q _ => ∃ v p, vs = [v] ∧ rParish H v p ∧ p.2.length ≤ 1000 ∧ ∀ H', Same H H' → Q (.int (worthSo p)) H'
def spDaysIn : Sp := fun vs H Q _ => ∃ v x, vs = [v] ∧ rHold H v x ∧ Q (.int (daysIn x)) H
def spEmptySo : Sp := fun vs H Q _ => ∃ v x, vs = [v] ∧ rHouse H v x ∧ x.2.2.length ≤ 1000 ∧ ∀ H', Same H H' → Q (.int (emptySo x)) H'
def spAllHouses : Sp := fun vs H Q _ => ∃ v c, vs = [v] ∧ rCounty H v c ∧ (allHouses c).length ≤ 1000 ∧ c.length ≤ 1000 ∧ ∀ p us H', Same H H' → H p = none → H' p = some (.lst us) → Paired (rHouse H') us (allHouses c) → Q (.ref p) H'
def spUnlike : Sp := fun vs H Q _ => ∃ a us ss, vs = [.ref a] ∧ H a = some (.lst us) ∧ Paired (rS H) us ss ∧ ss.Nodup ∧ ss.length ≤ 1000 ∧ Q (.bl true) H
def spCounty : Sp := fun vs H Q _ => ∃ v c, vs = [v] ∧ rCounty H v c ∧ CountyOk c ∧ ∀ H', Same H H' → Q (.bl (posC c)) H'
section
variable {P : Program} {w : World} {K : PySem.W.Frag} {mg : Str → Option Value} {base : Heap}
abbrev N_is_house : List Str := ["thing", "one", "other"]
theorem sc_is_house : FnScope N_is_house ["thing"] (defScope (top 30)) := ⟨rfl, rfl, rfl, by decide +kernel, rfl, by decide +kernel, by decide +kernel⟩
theorem c_is_house (T : Txt w K mg) : Cl P w K mg base CX0 3 "is_house" spHouse := by
  refine Cl.of T.d_is_house sc_is_house (fun _ _ _ _ _ _ us h => by obtain ⟨u0, rfl⟩ := len1 h; rfl) (fun vs H Q E h => by obtain ⟨v, x, rfl, r, ok, q⟩ := h; rfl) fun f cdv A outer s H vs Q E hr h => ?_
  obtain ⟨v, x, rfl, r, ok, q⟩ := h
  refine ⟨_, PSs.nox ((pss_cons (ps_if (PW.pt (pw_or (pt_not (pt_val (pe_callB isi_tup (by rfl) T.f_isinstance boot_isinstance (pa_cons (pv 0) (pa_cons (pe_bltn (v := .ty "tuple") (by rfl) T.f_tuple boot_tuple rfl) pa_nil))))) (pw_or (pt_cmpR op_ne (pe_callB call_lenS (by rfl) T.f_len boot_len (pa_cons (pv 0) pa_nil)) pe_int (nomark _)) (pw_or1 (pt_not (pt_val (pc (c_is_name T) (hr.mono (by decide)) pass0 (pa_cons (pe_ix ix_tupS (pv 0) pe_int (fun _ _ => rfl)) pa_nil)))))))) (pss_one (ps_ret pe_bl)) pss_nil)
  (pss_cons (ps_if (PW.pt (pw_or (pt_not (pt_val (pc (c_is_whole T) (hr.mono (by decide)) pass0 (pa_cons (pe_ix ix_tupS (pv 0) pe_int (fun _ _ => rfl)) (pa_cons pe_int (pa_cons (C8.pe_gc rfl T.c_MOST_WORTH) pa_nil)))))) (pw_or (pt_not (pt_val (pe_callB isi_tup (by rfl) T.f_isinstance boot_isinstance (pa_cons (pe_ix ix_tupS (pv 0) pe_int (fun _ _ => rfl)) (pa_cons (pe_bltn (v := .ty "tuple") (by rfl) T.f_tuple boot_tuple rfl) pa_nil))))) (pw_or1 (pt_cmpR op_gt (pe_callB call_lenS (by rfl) T.f_len boot_len (pa_cons (pe_ix ix_tupS (pv 0) pe_int (fun _ _ => rfl)) pa_nil)) (C8.pe_gc rfl T.c_MOST_HOLDINGS) (nomark _)))))) (pss_one (ps_ret pe_bl)) pss_nil)
  (pss_cons (ps_if (pt_not (pt_val (pe_callB (cr_allS rfl) (by rfl) T.f_all boot_all (pa_cons (pe_lcS (own := [("one", 1)]) (by rfl) sc_is_house.nd (pi_tup (pe_ix ix_tupS (pv 0) pe_int (fun _ _ => rfl))) (blkOk_by (own := [("one", 1)]) (N := N_is_house) (sc := defScope (top 30)) (by decide +kernel)) (fun _ _ _ _ _ => (pg_name (i := 1) sc_is_house.nd rfl (Or.inl rfl))) (fun _ _ _ _ _ => pts_nil) (fun _ _ _ _ _ => (pc (c_is_holding T) (hr.mono (by decide)) pass0 (pa_cons (pv 1) pa_nil)))) pa_nil)))) (pss_one (ps_ret pe_bl)) pss_nil)
  (pss_one (ps_ret (pe_callB (cr_allS rfl) (by rfl) T.f_all boot_all (pa_cons (pe_lcS (own := [("one", 1), ("other", 2)]) (by rfl) sc_is_house.nd (pi_zipX (by rfl) T.f_zip (pa_cons (pe_ix ix_tupS (pv 0) pe_int (fun _ _ => rfl)) (pa_cons (pe_slice sl_tupS (pe_ix ix_tupS (pv 0) pe_int (fun _ _ => rfl)) (po_some pe_int) po_none) pa_nil))) (blkOk_by (own := [("one", 1), ("other", 2)]) (N := N_is_house) (sc := defScope (top 30)) (by decide +kernel)) (fun _ _ _ _ _ => (pg_tupS (n := 2) rfl (pgs_cons (pg_name (i := 1) sc_is_house.nd rfl (Or.inl rfl)) (pgs_cons (pg_name (i := 2) sc_is_house.nd rfl (Or.inl rfl)) pgs_nil)))) (fun _ _ _ _ _ => pts_nil) (fun _ _ _ _ _ => (pe_cmpR op_lt (pe_ix ix_tupS (pv 1) pe_int (fun _ _ => rfl)) (pe_ix ix_tupS (pv 2) pe_int (fun _ _ => rfl)) (nomark _)))) pa_nil)))))))), ?_⟩
  obtain ⟨z, wo, hs⟩ := x
  obtain ⟨a, p, q1, q2, rfl, ha, rfl, rfl, b, us, rfl, hb, pu⟩ := r
  have hl : us.length = hs.length := pr_len pu
  have hlen : hs.length ≤ 12 := ok.len
  refine ⟨_, rfl, a, _, rfl, ha, true, rfl, iteF ?_⟩
  refine ⟨_, rfl, a, _, rfl, .inr ha, rfl, false, rfl, iteF ?_⟩
  refine ⟨_, rfl, a, _, 0, _, rfl, rfl, ha, rfl, z, rfl, ok.nm, fun H1 s1 => ⟨true, rfl, iteF ?_⟩⟩
  refine ⟨_, rfl, a, _, 1, _, rfl, rfl, s1 _ _ ha, rfl, wo, 0, 9999, rfl, true, dT ⟨ok.lo, ok.hi⟩, iteF ?_⟩
  refine ⟨_, rfl, a, _, 2, _, rfl, rfl, s1 _ _ ha, rfl, b, us, rfl, s1 _ _ hb, true, rfl, iteF ?_⟩
  refine ⟨_, rfl, a, _, 2, _, rfl, rfl, s1 _ _ ha, rfl, b, us, rfl, .inr (s1 _ _ hb), _, _, rfl, rfl, false, dF (by omega), iteF ?_⟩
  refine ⟨_, rfl, a, _, 2, _, rfl, rfl, s1 _ _ ha, rfl, b, rfl, ⟨us, SqT.of (s1 _ _ hb)⟩, fun D hD => ?_⟩
  refine lcM (A := rHold) (B := rB) (ds := hs) src_tup (fun _ => true) hD (by omega) (fun H2 s2 => okT_mono s2.tk ⟨us, s1 _ _ hb, mnL s1.tk pu⟩) (fun i d x H2 hd s2 r => ?_) fun acc H2 s2 hD2 pa => ?_
  · exact ⟨rfl, _, rfl, x, d, rfl, r, ok.all d (List.mem_of_getElem? hd), fun H3 s3 => ⟨s3, rfl⟩⟩
  refine ⟨D, acc, _, rfl, hD2, pa, true, congrArg V.bl (all_true _), iteF ?_⟩
  have s2' := s1.trans s2
  refine ⟨_, rfl, a, _, 2, _, rfl, rfl, s2' _ _ ha, rfl, _, rfl, a, _, 2, _, rfl, rfl, s2' _ _ ha, rfl, 1, rfl, b, us, rfl, s2' _ _ hb, fun p3 H3 s3 hp3 => ?_⟩
  have s3' := s2'.trans s3
  rw [show (1 : Int) = ((1 : Nat) : Int) from rfl, cut_drop] at hp3
  have pu3 := mnL s3'.tk pu
  refine ⟨.t, .t, _, _, us, _, rfl, ⟨b, rfl, SqT.of (s3' _ _ hb)⟩, ⟨p3, rfl, SqT.of hp3⟩, fun D hD => ?_⟩
  refine lcM (A := rP rHold rHold) (B := rB) (ds := hs.zip (hs.drop 1)) src_zip (fun _ => true) hD (by rw [List.length_zip]; omega)
    (fun H4 s4 => ⟨okK_mono s4 (k := .t) ⟨b, rfl, us, s3' _ _ hb, pu3⟩, okK_mono s4 (k := .t) ⟨p3, rfl, _, hp3, pr_drop 1 pu3⟩⟩) (fun i d x H4 hd s4 r => ?_) fun acc H4 s4 hD4 pa => ?_
  · obtain ⟨T0, x1, x2, rfl, hT, ⟨a1, y1, y2, y3, rfl, h1, rfl, rfl, rfl⟩, ⟨a2, w1, w2, w3, rfl, h2, rfl, rfl, rfl⟩⟩ := r
    exact ⟨T0, _, rfl, hT, rfl, _, _, rfl, _, _, rfl, rfl, rfl, _, rfl, a1, _, 2, _, rfl, rfl, h1, rfl, _, rfl, a2, _, 1, _, rfl, rfl, h2, rfl, _, _, rfl, rfl, Same.refl _, dT (ok.apart d (List.mem_of_getElem? hd))⟩
  · refine ⟨D, acc, _, rfl, hD4, pa, ?_⟩
    rw [all_true]
    exact q _ (s3'.trans s4)
abbrev N_is_parish : List Str := ["thing", "one"]
theorem sc_is_parish : FnScope N_is_parish ["thing"] (defScope (top 31)) := ⟨rfl, rfl, rfl, by decide +kernel, rfl, by decide +kernel, by decide +kernel⟩
theorem c_is_parish (T : Txt w K mg) : Cl P w K mg base CX0 4 "is_parish" spParish := by
  refine Cl.of T.d_is_parish sc_is_parish (fun _ _ _ _ _ _ us h => by obtain ⟨u0, rfl⟩ := len1 h; rfl) (fun vs H Q E h => by obtain ⟨v, x, rfl, r, ok, q⟩ := h; rfl) fun f cdv A outer s H vs Q E hr h => ?_
  obtain ⟨v, x, rfl, r, ok, q⟩ := h
  refine ⟨_, PSs.nox ((pss_cons (ps_if (PW.pt (pw_or (pt_not (pt_val (pe_callB isi_tup (by rfl) T.f_isinstance boot_isinstance (pa_cons (pv 0) (pa_cons (pe_bltn (v := .ty "tuple") (by rfl) T.f_tuple boot_tuple rfl) pa_nil))))) (pw_or (pt_cmpR op_ne (pe_callB call_lenS (by rfl) T.f_len boot_len (pa_cons (pv 0) pa_nil)) pe_int (nomark _)) (pw_or (pt_not (pt_val (pc (c_is_name T) (hr.mono (by decide)) pass0 (pa_cons (pe_ix ix_tupS (pv 0) pe_int (fun _ _ => rfl)) pa_nil)))) (pw_or1 (pt_not (pt_val (pe_callB isi_tup (by rfl) T.f_isinstance boot_isinstance (pa_cons (pe_ix ix_tupS (pv 0) pe_int (fun _ _ => rfl)) (pa_cons (pe_bltn (v := .ty "tuple") (by rfl) T.f_tuple boot_tuple rfl) pa_nil)))))))))) (pss_one (ps_ret pe_bl)) pss_nil)
  (pss_one (ps_ret (pe_and (pe_chain op_le op_le pe_int (pe_callB call_lenS (by rfl) T.f_len boot_len (pa_cons (pe_ix ix_tupS (pv 0) pe_int (fun _ _ => rfl)) pa_nil)) (C8.pe_gc rfl T.c_MOST_IN_PARISH)) (pe_one (pe_callB (cr_allS rfl) (by rfl) T.f_all boot_all (pa_cons (pe_lcS (own := [("one", 1)]) (by rfl) sc_is_parish.nd (pi_tup (pe_ix ix_tupS (pv 0) pe_int (fun _ _ => rfl))) (blkOk_by (own := [("one", 1)]) (N := N_is_parish) (sc := defScope (top 31)) (by decide +kernel)) (fun _ _ _ _ _ => (pg_name (i := 1) sc_is_parish.nd rfl (Or.inl rfl))) (fun _ _ _ _ _ => pts_nil) (fun _ _ _ _ _ => (pc (c_is_house T) (hr.mono (by decide)) pass0 (pa_cons (pv 1) pa_nil)))) pa_nil)))))))), ?_⟩
  obtain ⟨z, hs⟩ := x
  obtain ⟨a, p, q2, rfl, ha, rfl, b, us, rfl, hb, pu⟩ := r
  have hl : us.length = hs.length := pr_len pu
  have hlo : 1 ≤ hs.length := ok.lo
  have hhi : hs.length ≤ 20 := ok.hi
  refine ⟨_, rfl, a, _, rfl, ha, true, rfl, iteF ?_⟩
  refine ⟨_, rfl, a, _, rfl, .inr ha, rfl, false, rfl, iteF ?_⟩
  refine ⟨_, rfl, a, _, 0, _, rfl, rfl, ha, rfl, z, rfl, ok.nm, fun H1 s1 => ⟨true, rfl, iteF ?_⟩⟩
  refine ⟨_, rfl, a, _, 1, _, rfl, rfl, s1 _ _ ha, rfl, b, us, rfl, s1 _ _ hb, true, rfl, iteF ?_⟩
  refine ⟨_, rfl, a, _, 1, _, rfl, rfl, s1 _ _ ha, rfl, b, us, rfl, .inr (s1 _ _ hb), _, _, rfl, rfl, true, dT (by omega), iteT ⟨_, _, rfl, rfl, true, dT (by omega), iteT ?_⟩⟩
  refine ⟨_, rfl, a, _, 1, _, rfl, rfl, s1 _ _ ha, rfl, b, rfl, ⟨us, SqT.of (s1 _ _ hb)⟩, fun D hD => ?_⟩
  refine lcM (A := rHouse) (B := rB) (ds := hs) src_tup (fun _ => true) hD (by omega) (fun H2 s2 => okT_mono s2.tk ⟨us, s1 _ _ hb, mnL s1.tk pu⟩) (fun i d x H2 hd s2 r => ?_) fun acc H2 s2 hD2 pa => ?_
  · exact ⟨rfl, _, rfl, x, d, rfl, r, ok.all d (List.mem_of_getElem? hd), fun H3 s3 => ⟨s3, rfl⟩⟩
  refine ⟨D, acc, _, rfl, hD2, pa, ?_⟩
  rw [all_true]
  exact q _ (s1.trans s2)
abbrev N_are_unlike : List Str := ["names"]
theorem sc_are_unlike : FnScope N_are_unlike ["names"] (defScope (top 33)) := ⟨rfl, rfl, rfl, by decide +kernel, rfl, by decide +kernel, by decide +kernel⟩
theorem c_are_unlike (T : Txt w K mg) : Cl P w K mg base CX0 1 "are_unlike" spUnlike := by
  refine Cl.of T.d_are_unlike sc_are_unlike (fun _ _ _ _ _ _ us h => by obtain ⟨u0, rfl⟩ := len1 h; rfl) (fun vs H Q E h => by obtain ⟨a, us, ss, rfl, ha, pu, nd, hl, q⟩ := h; rfl) fun f cdv A outer s H vs Q E hr h => ?_
  obtain ⟨a, us, ss, rfl, ha, pu, nd, hl, q⟩ := h
  refine ⟨_, PSs.nox ((pss_one (ps_ret (pe_cmpR op_eq (pe_lenSetS (by rfl) T.f_len (by rfl) T.f_set (pv 0)) (pe_callB call_lenS (by rfl) T.f_len boot_len (pa_cons (pv 0) pa_nil)) (nomark _))))), ?_⟩
  refine ⟨_, rfl, a, us, ss, rfl, ha, pu, nd, by omega, _, rfl, a, us, rfl, .inl ha, rfl, ?_⟩
  rw [show decide (V.int ↑ss.length = V.int ↑us.length) = true from decide_eq_true (by rw [pr_len pu])]
  exact q
abbrev N_all_houses : List Str := ["county", "found", "name", "houses"]
theorem sc_all_houses : FnScope N_all_houses ["county"] (defScope (top 32)) := ⟨rfl, rfl, rfl, by decide +kernel, rfl, by decide +kernel, by decide +kernel⟩
theorem c_all_houses (T : Txt w K mg) : Cl P w K mg base CX0 1 "all_houses" spAllHouses := by
  refine Cl.of T.d_all_houses sc_all_houses (fun _ _ _ _ _ _ us h => by obtain ⟨u0, rfl⟩ := len1 h; rfl) (fun vs H Q E h => by obtain ⟨v, c, rfl, r, hl, hc, q⟩ := h; rfl) fun f cdv A outer s H vs Q E hr h => ?_
  obtain ⟨v, c, rfl, r, hl, hc, q⟩ := h
  refine ⟨_, PSs.nox ((pss_cons (ps_set (i := 1) sc_all_houses.nd rfl (Or.inl rfl) (pe_lstS pa_nil))
  (pss_cons (ps_for PassesOwn.never rfl (pi_tup (pv 0)) (pg_tupS (n := 2) rfl (pgs_cons (pg_name (i := 2) sc_all_houses.nd rfl (Or.inl rfl)) (pgs_cons (pg_name (i := 3) sc_all_houses.nd rfl (Or.inl rfl)) pgs_nil)))
  (pss_one (ps_expr (pe_bm PySem.F.plainAttrs_list PySem.F.slot_list_extend PySem.F.type_list_extend mt_extendT (pv 1) (pa_cons (pv 3) pa_nil)))))
  (pss_one (ps_ret (pv 1)))))), ?_⟩
  obtain ⟨a, us, rfl, ha, pu⟩ := r
  have hul : us.length = _ := pr_len pu
  refine ⟨by show 0 ≤ 1000000; decide, fun p H1 hp s1 hp1 => ?_⟩
  refine ⟨_, rfl, a, rfl, ⟨us, SqT.of (s1 _ _ ha)⟩, ?_⟩
  refine forS (A := rParish) (ds := c) src_tup (Pv := fun i σ H2 => ∃ x y acc, σ = [some (.ref a), some (.ref p), x, y] ∧ Same H H2 ∧ H2 p = some (.lst acc) ∧ Paired (rHouse H2) acc (allHouses (c.take i))) ?_ ?_ ?_ ?_
  · exact ⟨_, _, [], rfl, s1, hp1, .nil⟩
  · rintro i σ H2 hi ⟨x, y, acc, rfl, s2, h2, p2⟩
    exact okT_mono s2.tk ⟨us, ha, pu⟩
  · rintro i d x σ H2 H3 hd ⟨x0, y0, acc, rfl, s2, h2, p2⟩ s3 r
    obtain ⟨a1, p1, p3, rfl, h1, rfl, b, vs, rfl, hb, pb⟩ := r
    have h3 := s3 _ _ h2
    have hsz : acc.length + vs.length ≤ 1000 := by
      rw [pr_len p2, pr_len pb, ← List.length_append, ← allHouses_snoc hd]
      exact Nat.le_trans (allHouses_le c _) hl
    refine ⟨a1, _, rfl, h1, rfl, _, _, rfl, _, _, rfl, rfl, ?_⟩
    refine ⟨_, rfl, .inl ⟨rfl, _, SqL.of h3⟩, _, rfl, p, b, acc, vs, rfl, rfl, h3, hb, by omega, ?_⟩
    have tk : Tk H3 (upd H3 p (.lst (acc ++ vs))) := Tk.upd h3 fun _ z => by cases z
    refine ⟨_, _, acc ++ vs, rfl, (s2.trans s3).mut hp, upd_same, ?_⟩
    rw [allHouses_snoc hd]
    exact pr_app (mnL (s3.tk.trans tk) p2) (mnL tk pb)
  · rintro σ H2 ⟨x, y, acc, rfl, s2, h2, p2⟩
    rw [List.take_length] at p2
    exact ⟨_, rfl, q _ _ _ s2 hp h2 p2⟩
abbrev N_worth_so : List Str := ["parish", "house"]
theorem sc_worth_so : FnScope N_worth_so ["parish"] (defScope (top 37)) := ⟨rfl, rfl, rfl, by decide +kernel, rfl, by decide +kernel, by decide +kernel⟩
theorem c_worth_so (T : Txt w K mg) : Cl P w K mg base CX0 1 "worth_so" spWorthSo := by
  refine Cl.of T.d_worth_so sc_worth_so (fun _ _ _ _ _ _ us h => by obtain ⟨u0, rfl⟩ := len1 h; rfl) (fun vs H Q E h => by obtain ⟨v, x, rfl, r, hl, q⟩ := h; rfl) fun f cdv A outer s H vs Q E hr h => ?_
  obtain ⟨v, x, rfl, r, hl, q⟩ := h
  refine ⟨_, PSs.nox ((pss_one (ps_ret (pe_callB (cr_sumS rfl) (by rfl) T.f_sum boot_sum (pa_cons (pe_lcS (own := [("house", 1)]) (by rfl) sc_worth_so.nd (pi_tup (pe_ix ix_tupS (pv 0) pe_int (fun _ _ => rfl))) (blkOk_by (own := [("house", 1)]) (N := N_worth_so) (sc := defScope (top 37)) (by decide +kernel)) (fun _ _ _ _ _ => (pg_name (i := 1) sc_worth_so.nd rfl (Or.inl rfl))) (fun _ _ _ _ _ => pts_nil) (fun _ _ _ _ _ => (pe_ix ix_tupS (pv 1) pe_int (fun _ _ => rfl)))) pa_nil))))), ?_⟩
  obtain ⟨z, hs⟩ := x
  obtain ⟨a, p, q2, rfl, ha, rfl, b, us, rfl, hb, pu⟩ := r
  have hul : us.length = _ := pr_len pu
  have hl : hs.length ≤ 1000 := hl
  refine ⟨_, rfl, a, _, 1, _, rfl, rfl, ha, rfl, b, rfl, ⟨us, SqT.of hb⟩, fun D hD => ?_⟩
  refine lcM (A := rHouse) (B := rI) (ds := hs) src_tup (fun h => h.2.1) hD (by omega) (fun H2 s2 => okT_mono s2.tk ⟨us, hb, pu⟩) (fun i d x H2 hd s2 r => ?_) fun acc H2 s2 hD2 pa => ?_
  · obtain ⟨a1, y1, y2, y3, rfl, h1, rfl, rfl, _⟩ := r
    exact ⟨rfl, _, rfl, a1, _, 1, _, rfl, rfl, h1, rfl, Same.refl _, rfl⟩
  exact ⟨D, acc, _, rfl, hD2, pa, q _ s2⟩
abbrev N_days_in : List Str := ["holding"]
theorem sc_days_in : FnScope N_days_in ["holding"] (defScope (top 38)) := ⟨rfl, rfl, rfl, by decide +kernel, rfl, by decide +kernel, by decide +kernel⟩
theorem c_days_in (T : Txt w K mg) : Cl P w K mg base CX0 1 "days_in" spDaysIn := by
  refine Cl.of T.d_days_in sc_days_in (fun _ _ _ _ _ _ us h => by obtain ⟨u0, rfl⟩ := len1 h; rfl) (fun vs H Q E h => by obtain ⟨v, x, rfl, r, q⟩ := h; rfl) fun f cdv A outer s H vs Q E hr h => ?_
  obtain ⟨v, x, rfl, r, q⟩ := h
  refine ⟨_, PSs.nox ((pss_one (ps_ret (pe_op op_add (pe_op op_sub (pe_ix ix_tupS (pv 0) pe_int (fun _ _ => rfl)) (pe_ix ix_tupS (pv 0) pe_int (fun _ _ => rfl))) pe_int)))), ?_⟩
  obtain ⟨z, f0, l⟩ := x
  obtain ⟨a, p, q1, q2, rfl, ha, rfl, rfl, rfl⟩ := r
  exact ⟨_, rfl, a, _, 2, _, rfl, rfl, ha, rfl, _, rfl, a, _, 1, _, rfl, rfl, ha, rfl, _, _, rfl, rfl, _, _, rfl, rfl, q⟩
abbrev N_empty_so : List Str := ["house", "one"]
theorem sc_empty_so : FnScope N_empty_so ["house"] (defScope (top 39)) := ⟨rfl, rfl, rfl, by decide +kernel, rfl, by decide +kernel, by decide +kernel⟩
theorem c_empty_so (T : Txt w K mg) : Cl P w K mg base CX0 2 "empty_so" spEmptySo := by
  refine Cl.of T.d_empty_so sc_empty_so (fun _ _ _ _ _ _ us h => by obtain ⟨u0, rfl⟩ := len1 h; rfl) (fun vs H Q E h => by obtain ⟨v, x, rfl, r, hl, q⟩ := h; rfl) fun f cdv A outer s H vs Q E hr h => ?_
  obtain ⟨v, x, rfl, r, hl, q⟩ := h
  refine ⟨_, PSs.nox ((pss_one (ps_ret (pe_op op_sub (C8.pe_gc rfl T.c_LAST_DAY) (pe_callB (cr_sumS rfl) (by rfl) T.f_sum boot_sum (pa_cons (pe_lcS (own := [("one", 1)]) (by rfl) sc_empty_so.nd (pi_tup (pe_ix ix_tupS (pv 0) pe_int (fun _ _ => rfl))) (blkOk_by (own := [("one", 1)]) (N := N_empty_so) (sc := defScope (top 39)) (by decide +kernel)) (fun _ _ _ _ _ => (pg_name (i := 1) sc_empty_so.nd rfl (Or.inl rfl))) (fun _ _ _ _ _ => pts_nil) (fun _ _ _ _ _ => (pc (c_days_in T) (hr.mono (by decide)) pass0 (pa_cons (pv 1) pa_nil)))) pa_nil)))))), ?_⟩
  obtain ⟨z, wo, hs⟩ := x
  obtain ⟨a, p, q1, q2, rfl, ha, rfl, rfl, b, us, rfl, hb, pu⟩ := r
  have hul : us.length = _ := pr_len pu
  have hl : hs.length ≤ 1000 := hl
  refine ⟨_, rfl, a, _, 2, _, rfl, rfl, ha, rfl, b, rfl, ⟨us, SqT.of hb⟩, fun D hD => ?_⟩
  refine lcM (A := rHold) (B := rI) (ds := hs) src_tup daysIn hD (by omega) (fun H2 s2 => okT_mono s2.tk ⟨us, hb, pu⟩) (fun i d x H2 hd s2 r => ?_) fun acc H2 s2 hD2 pa => ?_
  · exact ⟨rfl, _, rfl, x, d, rfl, r, Same.refl _, rfl⟩
  exact ⟨D, acc, _, rfl, hD2, pa, _, _, rfl, rfl, q _ s2⟩
end
end K5
set_option maxHeartbeats 4000000
namespace K5
open PySem PySem.Spec PyProof.Rows L2
theorem le1 {α : Type} {a : α} : [a].length ≤ 1000000 := by show 1 ≤ 1000000; decide
theorem le2 {α : Type} {a b : α} : [a, b].length ≤ 1000000 := by show 2 ≤ 1000000; decide
theorem le3 {α : Type} {a b c : α} : [a, b, c].length ≤ 1000000 := by show 3 ≤ 1000000; decide
theorem le4 {α : Type} {a b c d : α} : [a, b, c, d].length ≤ 1000000 := by show 4 ≤ 1000000; decide
theorem le5 {α : Type} {a b c d e : α} : [a, b, c, d, e].length ≤ 1000000 := by show 5 ≤ 1000000; decide
theorem le6 {α : Type} {a b c d e f : α} : [a, b, c, d, e, f].length ≤ 1000000 := by show 6 ≤ 1000000; decide
theorem ixN_of {n i : Nat} (h : i < n) : ixN n (i : Int) = some i := by
  unfold ixN
  rw [if_pos (by omega), if_pos (by omega)]
  simp
structure ExcOk (ns : List Str) : Prop where
  len : ns.length ≤ 40
  all : ∀ n ∈ ns, NameOk n
  up : ∀ p ∈ ns.zip (ns.drop 1), p.1.cps.toList < p.2.cps.toList
def spNeedCounty : Sp := fun vs H Q _ => ∃ v c, vs = [v] ∧ rCounty H v c ∧ CountyOk c ∧ posC c = true ∧ ∀ H', Same H H' → Q .non H'
def spNeedName : Sp := fun vs H Q _ => ∃ z, vs = [.str z] ∧ NameOk z ∧ ∀ H', Same H H' → Q .non H'
def spNeedSum : Sp := fun vs H Q _ => ∃ i, vs = [.int i] ∧ 0 ≤ i ∧ i ≤ 1000000000 ∧ ∀ H', Same H H' → Q .non H'
def spExcused : Sp := fun vs H Q _ => ∃ v ns, vs = [v] ∧ rTL rS H v ns ∧ ExcOk ns ∧ ∀ H', Same H H' → Q (.bl true) H'
def spNeedExcused : Sp := fun vs H Q _ => ∃ v ns, vs = [v] ∧ rTL rS H v ns ∧ ExcOk ns ∧ ∀ H', Same H H' → Q .non H'
def spNeedAsked : Sp := fun vs H Q _ => ∃ v c t, vs = [v, .int t] ∧ rCounty H v c ∧ CountyOk c ∧ posC c = true ∧ 0 ≤ t ∧ t ≤ 1000000000 ∧ ∀ H', Same H H' → Q .non H'
def spShare : Sp := fun vs H Q _ => ∃ (t : Int) (a : Addr) (ws : List Int) (us : List V), vs = [.int t, .ref a] ∧ H a = some (.lst us) ∧ Paired (rI H) us ws ∧ 0 ≤ t ∧ t ≤ 1000000000 ∧ 0 < ws.sum ∧ ws.sum < 1073741824 ∧ ws.length ≤ 1000 ∧
  ∀ v H', Same H H' → rTL rI H' v (K5M.shareOut t ws) → Q v H'
section
variable {P : Program} {w : World} {K : PySem.W.Frag} {mg : Str → Option Value} {base : Heap}
abbrev N_is_county : List Str := ["thing", "houses", "one", "name", "house"]
theorem sc_is_county : FnScope N_is_county ["thing"] (defScope (top 34)) := ⟨rfl, rfl, rfl, by decide +kernel, rfl, by decide +kernel, by decide +kernel⟩
theorem c_is_county (T : Txt w K mg) : Cl P w K mg base CX0 5 "is_county" spCounty := by
  refine Cl.of T.d_is_county sc_is_county (fun _ _ _ _ _ _ us h => by obtain ⟨u0, rfl⟩ := len1 h; rfl) (fun vs H Q E h => by obtain ⟨v, c, rfl, r, ok, q⟩ := h; rfl) fun f cdv A outer s H vs Q E hr h => ?_
  obtain ⟨v, c, rfl, r, ok, q⟩ := h
  refine ⟨_, PSs.nox ((pss_cons (ps_if (PW.pt (pw_or (pt_not (pt_val (pe_callB isi_tup (by rfl) T.f_isinstance boot_isinstance (pa_cons (pv 0) (pa_cons (pe_bltn (v := .ty "tuple") (by rfl) T.f_tuple boot_tuple rfl) pa_nil))))) (pw_or1 (pt_not (pt_chain op_le op_le pe_int (pe_callB call_lenS (by rfl) T.f_len boot_len (pa_cons (pv 0) pa_nil)) (C8.pe_gc rfl T.c_MOST_PARISHES)))))) (pss_one (ps_ret pe_bl)) pss_nil)
  (pss_cons (ps_if (PW.pt (pw_or (pt_not (pt_val (pe_callB (cr_allS rfl) (by rfl) T.f_all boot_all (pa_cons (pe_lcS (own := [("one", 2)]) (by rfl) sc_is_county.nd (pi_tup (pv 0)) (blkOk_by (own := [("one", 2)]) (N := N_is_county) (sc := defScope (top 34)) (by decide +kernel)) (fun _ _ _ _ _ => (pg_name (i := 2) sc_is_county.nd rfl (Or.inl rfl))) (fun _ _ _ _ _ => pts_nil) (fun _ _ _ _ _ => (pc (c_is_parish T) (hr.mono (by decide)) pass0 (pa_cons (pv 2) pa_nil)))) pa_nil)))) (pw_or1 (pt_not (pt_val (pc (c_are_unlike T) (hr.mono (by decide)) pass0 (pa_cons (pe_lcS (own := [("name", 3), ("houses", 1)]) (by rfl) sc_is_county.nd (pi_tup (pv 0)) (blkOk_by (own := [("name", 3), ("houses", 1)]) (N := N_is_county) (sc := defScope (top 34)) (by decide +kernel)) (fun _ _ _ _ _ => (pg_tupS (n := 2) rfl (pgs_cons (pg_name (i := 3) sc_is_county.nd rfl (Or.inl rfl)) (pgs_cons (pg_name (i := 1) sc_is_county.nd rfl (Or.inl rfl)) pgs_nil)))) (fun _ _ _ _ _ => pts_nil) (fun _ _ _ _ _ => (pv 3))) pa_nil))))))) (pss_one (ps_ret pe_bl)) pss_nil)
  (pss_cons (ps_set (i := 1) sc_is_county.nd rfl (Or.inl rfl) (pc (c_all_houses T) (hr.mono (by decide)) pass0 (pa_cons (pv 0) pa_nil)))
  (pss_cons (ps_if (PW.pt (pw_or (pt_cmpR op_gt (pe_callB call_lenS (by rfl) T.f_len boot_len (pa_cons (pv 1) pa_nil)) (C8.pe_gc rfl T.c_MOST_HOUSES) (nomark _)) (pw_or1 (pt_not (pt_val (pc (c_are_unlike T) (hr.mono (by decide)) pass0 (pa_cons (pe_lcS (own := [("house", 4)]) (by rfl) sc_is_county.nd (pi_list (pv 1)) (blkOk_by (own := [("house", 4)]) (N := N_is_county) (sc := defScope (top 34)) (by decide +kernel)) (fun _ _ _ _ _ => (pg_name (i := 4) sc_is_county.nd rfl (Or.inl rfl))) (fun _ _ _ _ _ => pts_nil) (fun _ _ _ _ _ => (pe_ix ix_tupS (pv 4) pe_int (fun _ _ => rfl)))) pa_nil))))))) (pss_one (ps_ret pe_bl)) pss_nil)
  (pss_one (ps_ret (pe_callB (cr_anyS rfl) (by rfl) T.f_any boot_any (pa_cons (pe_lcS (own := [("house", 4)]) (by rfl) sc_is_county.nd (pi_list (pv 1)) (blkOk_by (own := [("house", 4)]) (N := N_is_county) (sc := defScope (top 34)) (by decide +kernel)) (fun _ _ _ _ _ => (pg_name (i := 4) sc_is_county.nd rfl (Or.inl rfl))) (fun _ _ _ _ _ => pts_nil) (fun _ _ _ _ _ => (pe_cmpR op_gt (pe_ix ix_tupS (pv 4) pe_int (fun _ _ => rfl)) pe_int (nomark _)))) pa_nil))))))))), ?_⟩
  obtain ⟨a, us, rfl, ha, pu⟩ := r
  have hul : us.length = c.length := pr_len pu
  have h1 := ok.lo
  have h2 := ok.hi
  have h3 := ok.len
  refine ⟨_, rfl, a, us, rfl, ha, true, rfl, iteF ?_⟩
  refine ⟨_, rfl, a, us, rfl, .inr ha, _, _, rfl, rfl, true, dT (by omega), iteT ⟨_, _, rfl, rfl, true, dT (by omega), iteF ?_⟩⟩
  refine ⟨_, rfl, a, rfl, ⟨us, SqT.of ha⟩, fun D hD => ?_⟩
  refine lcM (A := rParish) (B := rB) (ds := c) src_tup (fun _ => true) hD (by omega) (fun H2 s2 => okT_mono s2.tk ⟨us, ha, pu⟩) (fun i d x H2 hd s2 r => ?_) fun acc H1 s1 hD1 pa => ?_
  · exact ⟨rfl, _, rfl, x, d, rfl, r, ok.all d (List.mem_of_getElem? hd), fun H3 s3 => ⟨s3, rfl⟩⟩
  refine ⟨D, acc, _, rfl, hD1, pa, true, congrArg V.bl (all_true _), iteF ?_⟩
  refine ⟨_, rfl, a, rfl, ⟨us, SqT.of (s1 _ _ ha)⟩, fun D2 hD2 => ?_⟩
  refine lcM (A := rParish) (B := rS) (ds := c) src_tup (fun p => p.1) hD2 (by omega) (fun H2 s2 => okT_mono (s1.trans s2).tk ⟨us, ha, pu⟩) (fun i d x H2 hd s2 r => ?_) fun acc2 H2 s2 hD2' pa2 => ?_
  · obtain ⟨b, p, p2, rfl, hb, rfl, _⟩ := r
    exact ⟨b, _, rfl, hb, rfl, _, _, rfl, _, _, rfl, rfl, rfl, _, rfl, Same.refl _, rfl⟩
  refine ⟨D2, acc2, _, rfl, hD2', pa2, ok.nd, by rw [List.length_map]; omega, true, rfl, iteF ?_⟩
  have s12 := s1.trans s2
  refine ⟨_, rfl, _, c, rfl, ⟨a, us, rfl, s12 _ _ ha, mnL s12.tk pu⟩, by omega, by omega, fun p hs H3 s3 _ hp ph => ?_⟩
  have hlh : hs.length = (allHouses c).length := pr_len ph
  have s13 := s12.trans s3
  refine ⟨_, rfl, p, hs, rfl, .inl hp, _, _, rfl, rfl, false, dF (by omega), iteF ?_⟩
  refine ⟨_, rfl, p, rfl, ⟨hs, SqL.of hp⟩, fun D3 hD3 => ?_⟩
  refine lcM (A := rHouse) (B := rS) (ds := allHouses c) src_list (fun h => h.1) hD3 (by omega) (fun H4 s4 => okL_mono s4 ⟨hs, hp, ph⟩) (fun i d x H4 hd s4 r => ?_) fun acc3 H4 s4 hD3' pa3 => ?_
  · obtain ⟨b, p1, p2, p3, rfl, hb, rfl, _⟩ := r
    exact ⟨rfl, _, rfl, b, _, 0, _, rfl, rfl, hb, rfl, Same.refl _, rfl⟩
  refine ⟨D3, acc3, _, rfl, hD3', pa3, ok.hnd, by rw [List.length_map]; omega, true, rfl, iteF ?_⟩
  refine ⟨_, rfl, p, rfl, ⟨hs, SqL.of (s4 _ _ hp)⟩, fun D4 hD4 => ?_⟩
  refine lcM (A := rHouse) (B := rB) (ds := allHouses c) src_list (fun h => decide (0 < h.2.1)) hD4 (by omega) (fun H5 s5 => okL_mono (s4.trans s5) ⟨hs, hp, ph⟩) (fun i d x H5 hd s5 r => ?_) fun acc4 H5 s5 hD4' pa4 => ?_
  · obtain ⟨b, p1, p2, p3, rfl, hb, rfl, rfl, _⟩ := r
    exact ⟨rfl, _, rfl, b, _, 1, _, rfl, rfl, hb, rfl, _, _, rfl, rfl, Same.refl _, rfl⟩
  refine ⟨D4, acc4, _, rfl, hD4', pa4, ?_⟩
  have e : ((allHouses c).map fun h => decide (0 < h.2.1)).any id = posC c := by
    unfold posC
    rw [List.any_map]
    rfl
  rw [e]
  exact q _ (s13.trans (s4.trans s5))
abbrev N_need_county : List Str := ["thing"]
theorem sc_need_county : FnScope N_need_county ["thing"] (defScope (top 35)) := ⟨rfl, rfl, rfl, by decide +kernel, rfl, by decide +kernel, by decide +kernel⟩
theorem c_need_county (T : Txt w K mg) : Cl P w K mg base CX0 6 "need_county" spNeedCounty := by
  refine Cl.of T.d_need_county sc_need_county (fun _ _ _ _ _ _ us h => by obtain ⟨u0, rfl⟩ := len1 h; rfl) (fun vs H Q E h => by obtain ⟨v, c, rfl, r, ok, hp, q⟩ := h; rfl) fun f cdv A outer s H vs Q E hr h => ?_
  obtain ⟨v, c, rfl, r, ok, hp, q⟩ := h
  refine ⟨_, PSs.nox ((pss_one (ps_if (pt_not (pt_val (pc (c_is_county T) (hr.mono (by decide)) pass0 (pa_cons (pv 0) pa_nil)))) (pss_one ps_never) pss_nil))), ?_⟩
  exact ⟨_, rfl, v, c, rfl, r, ok, fun H1 s1 => ⟨true, congrArg V.bl hp, iteF (q _ s1)⟩⟩
abbrev N_need_name : List Str := ["thing"]
theorem sc_need_name : FnScope N_need_name ["thing"] (defScope (top 36)) := ⟨rfl, rfl, rfl, by decide +kernel, rfl, by decide +kernel, by decide +kernel⟩
theorem c_need_name (T : Txt w K mg) : Cl P w K mg base CX0 2 "need_name" spNeedName := by
  refine Cl.of T.d_need_name sc_need_name (fun _ _ _ _ _ _ us h => by obtain ⟨u0, rfl⟩ := len1 h; rfl) (fun vs H Q E h => by obtain ⟨z, rfl, nz, q⟩ := h; rfl) fun f cdv A outer s H vs Q E hr h => ?_
  obtain ⟨z, rfl, nz, q⟩ := h
  refine ⟨_, PSs.nox ((pss_one (ps_if (pt_not (pt_val (pc (c_is_name T) (hr.mono (by decide)) pass0 (pa_cons (pv 0) pa_nil)))) (pss_one ps_never) pss_nil))), ?_⟩
  exact ⟨_, rfl, z, rfl, nz, fun H1 s1 => ⟨true, rfl, iteF (q _ s1)⟩⟩
abbrev N_need_sum : List Str := ["thing"]
theorem sc_need_sum : FnScope N_need_sum ["thing"] (defScope (top 42)) := ⟨rfl, rfl, rfl, by decide +kernel, rfl, by decide +kernel, by decide +kernel⟩
theorem c_need_sum (T : Txt w K mg) : Cl P w K mg base CX0 2 "need_sum" spNeedSum := by
  refine Cl.of T.d_need_sum sc_need_sum (fun _ _ _ _ _ _ us h => by obtain ⟨u0, rfl⟩ := len1 h; rfl) (fun vs H Q E h => by obtain ⟨i, rfl, h0, h1, q⟩ := h; rfl) fun f cdv A outer s H vs Q E hr h => ?_
  obtain ⟨i, rfl, h0, h1, q⟩ := h
  refine ⟨_, PSs.nox ((pss_one (ps_if (pt_not (pt_val (pc (c_is_whole T) (hr.mono (by decide)) pass0 (pa_cons (pv 0) (pa_cons pe_int (pa_cons (C8.pe_gc rfl T.c_MOST_SUM) pa_nil)))))) (pss_one ps_never) pss_nil))), ?_⟩
  exact ⟨_, rfl, _, _, _, rfl, true, dT ⟨h0, h1⟩, iteF (q _ (Same.refl _))⟩
abbrev N_need_asked : List Str := ["county", "total"]
theorem sc_need_asked : FnScope N_need_asked ["county", "total"] (defScope (top 52)) := ⟨rfl, rfl, rfl, by decide +kernel, rfl, by decide +kernel, by decide +kernel⟩
theorem c_need_asked (T : Txt w K mg) : Cl P w K mg base CX0 7 "need_asked" spNeedAsked := by
  refine Cl.of T.d_need_asked sc_need_asked (fun _ _ _ _ _ _ us h => by obtain ⟨u0, u1, rfl⟩ := len2 h; rfl) (fun vs H Q E h => by obtain ⟨v, c, t, rfl, r, ok, hp, h0, h1, q⟩ := h; rfl) fun f cdv A outer s H vs Q E hr h => ?_
  obtain ⟨v, c, t, rfl, r, ok, hp, h0, h1, q⟩ := h
  refine ⟨_, PSs.nox ((pss_cons (ps_expr (pc (c_need_county T) (hr.mono (by decide)) pass0 (pa_cons (pv 0) pa_nil)))
  (pss_one (ps_expr (pc (c_need_sum T) (hr.mono (by decide)) pass0 (pa_cons (pv 1) pa_nil)))))), ?_⟩
  exact ⟨_, rfl, v, c, rfl, r, ok, hp, fun H1 s1 => ⟨_, rfl, _, rfl, h0, h1, fun H2 s2 => q _ (s1.trans s2)⟩⟩
abbrev N_are_excused : List Str := ["thing", "one", "other"]
theorem sc_are_excused : FnScope N_are_excused ["thing"] (defScope (top 46)) := ⟨rfl, rfl, rfl, by decide +kernel, rfl, by decide +kernel, by decide +kernel⟩
theorem c_are_excused (T : Txt w K mg) : Cl P w K mg base CX0 2 "are_excused" spExcused := by
  refine Cl.of T.d_are_excused sc_are_excused (fun _ _ _ _ _ _ us h => by obtain ⟨u0, rfl⟩ := len1 h; rfl) (fun vs H Q E h => by obtain ⟨v, ns, rfl, r, ok, q⟩ := h; rfl) fun f cdv A outer s H vs Q E hr h => ?_
  obtain ⟨v, ns, rfl, r, ok, q⟩ := h
  refine ⟨_, PSs.nox ((pss_cons (ps_if (PW.pt (pw_or (pt_not (pt_val (pe_callB isi_tup (by rfl) T.f_isinstance boot_isinstance (pa_cons (pv 0) (pa_cons (pe_bltn (v := .ty "tuple") (by rfl) T.f_tuple boot_tuple rfl) pa_nil))))) (pw_or (pt_cmpR op_gt (pe_callB call_lenS (by rfl) T.f_len boot_len (pa_cons (pv 0) pa_nil)) (C8.pe_gc rfl T.c_MOST_EXCUSED) (nomark _)) (pw_or1 (pt_not (pt_val (pe_callB (cr_allS rfl) (by rfl) T.f_all boot_all (pa_cons (pe_lcS (own := [("one", 1)]) (by rfl) sc_are_excused.nd (pi_tup (pv 0)) (blkOk_by (own := [("one", 1)]) (N := N_are_excused) (sc := defScope (top 46)) (by decide +kernel)) (fun _ _ _ _ _ => (pg_name (i := 1) sc_are_excused.nd rfl (Or.inl rfl))) (fun _ _ _ _ _ => pts_nil) (fun _ _ _ _ _ => (pc (c_is_name T) (hr.mono (by decide)) pass0 (pa_cons (pv 1) pa_nil)))) pa_nil)))))))) (pss_one (ps_ret pe_bl)) pss_nil)
  (pss_one (ps_ret (pe_callB (cr_allS rfl) (by rfl) T.f_all boot_all (pa_cons (pe_lcS (own := [("one", 1), ("other", 2)]) (by rfl) sc_are_excused.nd (pi_zipX (by rfl) T.f_zip (pa_cons (pv 0) (pa_cons (pe_slice sl_tupS (pv 0) (po_some pe_int) po_none) pa_nil))) (blkOk_by (own := [("one", 1), ("other", 2)]) (N := N_are_excused) (sc := defScope (top 46)) (by decide +kernel)) (fun _ _ _ _ _ => (pg_tupS (n := 2) rfl (pgs_cons (pg_name (i := 1) sc_are_excused.nd rfl (Or.inl rfl)) (pgs_cons (pg_name (i := 2) sc_are_excused.nd rfl (Or.inl rfl)) pgs_nil)))) (fun _ _ _ _ _ => pts_nil) (fun _ _ _ _ _ => (pe_cmpR op_lt_str (pv 1) (pv 2) (nomark _)))) pa_nil)))))), ?_⟩
  obtain ⟨a, us, rfl, ha, pu⟩ := r
  have hul : us.length = ns.length := pr_len pu
  have h1 := ok.len
  refine ⟨_, rfl, a, us, rfl, ha, true, rfl, iteF ?_⟩
  refine ⟨_, rfl, a, us, rfl, .inr ha, _, _, rfl, rfl, false, dF (by omega), iteF ?_⟩
  refine ⟨_, rfl, a, rfl, ⟨us, SqT.of ha⟩, fun D hD => ?_⟩
  refine lcM (A := rS) (B := rB) (ds := ns) src_tup (fun _ => true) hD (by omega) (fun H2 s2 => okT_mono s2.tk ⟨us, ha, pu⟩) (fun i d x H2 hd s2 r => ?_) fun acc H1 s1 hD1 pa => ?_
  · obtain rfl : x = .str d := r
    exact ⟨rfl, _, rfl, d, rfl, ok.all d (List.mem_of_getElem? hd), fun H3 s3 => ⟨s3, rfl⟩⟩
  refine ⟨D, acc, _, rfl, hD1, pa, true, congrArg V.bl (all_true _), iteF ?_⟩
  refine ⟨_, rfl, _, rfl, 1, rfl, a, us, rfl, s1 _ _ ha, fun p3 H3 s3 hp3 => ?_⟩
  have s3' := s1.trans s3
  rw [show (1 : Int) = ((1 : Nat) : Int) from rfl, cut_drop] at hp3
  have pu3 := mnL s3'.tk pu
  refine ⟨.t, .t, _, _, us, _, rfl, ⟨a, rfl, SqT.of (s3' _ _ ha)⟩, ⟨p3, rfl, SqT.of hp3⟩, fun D hD => ?_⟩
  refine lcM (A := rP rS rS) (B := rB) (ds := ns.zip (ns.drop 1)) src_zip (fun _ => true) hD (by rw [List.length_zip]; omega)
    (fun H4 s4 => ⟨okK_mono s4 (k := .t) ⟨a, rfl, us, s3' _ _ ha, pu3⟩, okK_mono s4 (k := .t) ⟨p3, rfl, _, hp3, pr_drop 1 pu3⟩⟩) (fun i d x H4 hd s4 r => ?_) fun acc H4 s4 hD4 pa => ?_
  · obtain ⟨T0, x1, x2, rfl, hT, rfl, rfl⟩ := r
    exact ⟨T0, _, rfl, hT, rfl, _, _, rfl, _, _, rfl, rfl, rfl, _, rfl, _, rfl, _, _, rfl, rfl, Same.refl _, dT (ok.up d (List.mem_of_getElem? hd))⟩
  · refine ⟨D, acc, _, rfl, hD4, pa, ?_⟩
    rw [all_true]
    exact q _ (s3'.trans s4)
abbrev N_need_excused : List Str := ["thing"]
theorem sc_need_excused : FnScope N_need_excused ["thing"] (defScope (top 47)) := ⟨rfl, rfl, rfl, by decide +kernel, rfl, by decide +kernel, by decide +kernel⟩
theorem c_need_excused (T : Txt w K mg) : Cl P w K mg base CX0 3 "need_excused" spNeedExcused := by
  refine Cl.of T.d_need_excused sc_need_excused (fun _ _ _ _ _ _ us h => by obtain ⟨u0, rfl⟩ := len1 h; rfl) (fun vs H Q E h => by obtain ⟨v, ns, rfl, r, ok, q⟩ := h; rfl) fun f cdv A outer s H vs Q E hr h => ?_
  obtain ⟨v, ns, rfl, r, ok, q⟩ := h
  refine ⟨_, PSs.nox ((pss_one (ps_if (pt_not (pt_val (pc (c_are_excused T) (hr.mono (by decide)) pass0 (pa_cons (pv 0) pa_nil)))) (pss_one ps_never) pss_nil))), ?_⟩
  exact ⟨_, rfl, v, ns, rfl, r, ok, fun H1 s1 => ⟨true, rfl, iteF (q _ s1)⟩⟩
abbrev N_share_out : List Str := ["total", "weights", "in_all", "found", "left", "ranks", "rest", "place", "weight"]
theorem sc_share_out : FnScope N_share_out ["total", "weights"] (defScope (top 43)) := ⟨rfl, rfl, rfl, by decide +kernel, rfl, by decide +kernel, by decide +kernel⟩
theorem c_share_out (T : Txt w K mg) : Cl P w K mg base CX0 1 "share_out" spShare := by
  refine Cl.of T.d_share_out sc_share_out (fun _ _ _ _ _ _ us h => by obtain ⟨u0, u1, rfl⟩ := len2 h; rfl) (fun vs H Q E h => by obtain ⟨t, a, ws, us, rfl, ha, pu, ht0, ht1, hS0, hS1, hn, q⟩ := h; rfl) fun f cdv A outer s H vs Q E hr h => ?_
  obtain ⟨t, a, ws, us, rfl, ha, pu, ht0, ht1, hS0, hS1, hn, q⟩ := h
  refine ⟨_, PSs.nox ((pss_cons (ps_set (i := 2) sc_share_out.nd rfl (Or.inr rfl) (pe_callB (cr_sumS rfl) (by rfl) T.f_sum boot_sum (pa_cons (pv 1) pa_nil)))
  (pss_cons (ps_setLcS (i := 3) (own := [("weight", 8)]) rfl sc_share_out.nd rfl rfl (sw_true rfl rfl rfl (by decide +kernel)) (pi_list (pv 1)) (blkOk_by (own := [("weight", 8)]) (N := N_share_out) (sc := defScope (top 43)) (by decide +kernel)) (fun _ _ _ _ _ => (pg_name (i := 8) sc_share_out.nd rfl (Or.inl rfl))) (fun _ _ _ _ _ => pts_nil) (fun _ _ _ _ _ => (pe_op op_fdiv (pe_op op_mul (pv 0) (pv 8)) (pv 2))))
  (pss_cons (ps_set (i := 4) sc_share_out.nd rfl (Or.inl rfl) (pe_op op_sub (pv 0) (pe_callB (cr_sumS rfl) (by rfl) T.f_sum boot_sum (pa_cons (pv 3) pa_nil))))
  (pss_cons (ps_set (i := 5) sc_share_out.nd rfl (Or.inl rfl) (pe_callB cr_sortedPS (by rfl) T.f_sorted boot_sorted (pa_cons (pe_lcS (own := [("place", 7), ("weight", 8)]) (by rfl) sc_share_out.nd (pi_enum (by rfl) T.f_enumerate (pa_cons (pv 1) pa_nil)) (blkOk_by (own := [("place", 7), ("weight", 8)]) (N := N_share_out) (sc := defScope (top 43)) (by decide +kernel)) (fun _ _ _ _ _ => (pg_tupS (n := 2) rfl (pgs_cons (pg_name (i := 7) sc_share_out.nd rfl (Or.inl rfl)) (pgs_cons (pg_name (i := 8) sc_share_out.nd rfl (Or.inl rfl)) pgs_nil)))) (fun _ _ _ _ _ => pts_nil) (fun _ _ _ _ _ => (pe_tupS (pa_cons (pe_op op_sub pe_int (pe_op op_mod (pe_op op_mul (pv 0) (pv 8)) (pv 2))) (pa_cons (pv 7) pa_nil))))) pa_nil)))
  (pss_cons (ps_for PassesOwn.never rfl (pi_list (pe_slice sl_listS (pv 5) po_none (po_some (pv 4)))) (pg_tupS (n := 2) rfl (pgs_cons (pg_name (i := 6) sc_share_out.nd rfl (Or.inl rfl)) (pgs_cons (pg_name (i := 7) sc_share_out.nd rfl (Or.inl rfl)) pgs_nil)))
  (pss_one (ps_asg (pe_op op_add (pe_ix ix_listS (pv 3) (pv 7) (fun _ _ => rfl)) pe_int) (pg_sub (pv 3) (pv 7) set_list))))
  (pss_one (ps_ret (pe_callTy call_tupleS (by rfl) T.f_tuple boot_tuple (pa_cons (pv 3) pa_nil)))))))))), ?_⟩
  have hul : us.length = ws.length := pr_len pu
  refine ⟨_, rfl, a, us, ws, rfl, ha, pu, ?_⟩
  refine ⟨_, rfl, a, rfl, ⟨us, SqL.of ha⟩, fun D hD => ?_⟩
  refine lcM (A := rI) (B := rI) (ds := ws) src_list (fun w => t * w / ws.sum) hD (by omega) (fun H1 s1 => okL_mono s1 ⟨us, ha, pu⟩) (fun i d x H1 hd s1 r => ?_) fun acc H1 s1 hD1 pa => ?_
  · obtain rfl : x = .int d := r
    exact ⟨rfl, _, rfl, _, rfl, _, _, rfl, rfl, .inl ⟨by omega, by omega⟩, _, rfl, _, _, rfl, rfl, ⟨hS0, hS1⟩, Same.refl _, rfl⟩
  refine ⟨_, rfl, _, rfl, D, acc, _, rfl, hD1, pa, _, _, rfl, rfl, ?_⟩
  refine ⟨_, rfl, a, us, rfl, SqL.of (s1 _ _ ha), fun D2 hD2 => ?_⟩
  refine lcM (A := rP rI rI) (B := rP rI rI) (ds := ws.zipIdx.map fun p => ((p.2 : Int), p.1)) src_enum (fun p => (0 - t * p.2 % ws.sum, p.1)) hD2 (by rw [List.length_map, List.length_zipIdx]; omega)
    (fun H2 s2 => okL_mono (s1.trans s2) ⟨us, ha, pu⟩) (fun i d x H2 hd s2 r => ?_) fun acc2 H2 s2 hD2' pa2 => ?_
  · obtain ⟨T0, x1, x2, rfl, hT, rfl, rfl⟩ := r
    exact ⟨T0, _, rfl, hT, rfl, _, _, rfl, _, _, rfl, rfl, rfl, _, rfl, _, rfl, _, _, rfl, rfl, .inl ⟨by omega, by omega⟩, _, rfl, _, _, rfl, rfl, hS0, _, _, rfl, rfl, _, rfl, le2,
      fun p H3 hp s3 h3 => ⟨s3, p, _, _, rfl, h3, rfl, rfl⟩⟩
  refine ⟨D2, acc2, _, rfl, hD2', pa2, fun p5 ys ss H3 s3 hp5 h5 py hsort hperm => ?_⟩
  have e : ss = K5M.sortedOf t ws := K5M.sorted_uniq hsort hperm
  subst e
  have hlo := K5M.left_lo (t := t) hS0
  refine ⟨_, rfl, _, rfl, _, rfl, p5, ys, rfl, h5, fun p6 H4 hp6 s4 h6 => ?_⟩
  have e4 : cutV ys none (some (t - (K5M.baseOf t ws).sum)) = ys.take (K5M.leftOf t ws).toNat := by
    rw [← cut_take, Int.toNat_of_nonneg hlo]
    rfl
  have h6 : H4 p6 = some (.lst (ys.take (K5M.leftOf t ws).toNat)) := by
    rw [← e4]
    exact h6
  have py6 : Paired (rP rI rI H4) (ys.take (K5M.leftOf t ws).toNat) ((K5M.sortedOf t ws).take (K5M.leftOf t ws).toNat) := pr_take _ (mnL s4.tk py)
  have hD3 : H3 D = some (.lst ((K5M.baseOf t ws).map V.int)) := by
    have := s3 _ _ (s2 _ _ hD1)
    rw [this, pr_int pa]
    rfl
  have hD4 := s4 _ _ hD3
  have s14 : Same H H4 := s1.trans (s2.trans (s3.trans s4))
  have ne6 : p6 ≠ D := (ne_of_none hD3 hp6).symm
  refine ⟨p6, rfl, ⟨_, SqL.of h6⟩, ?_⟩
  refine forS (A := rP rI rI) (ds := (K5M.sortedOf t ws).take (K5M.leftOf t ws).toNat) src_list (Pv := fun i σ H5 => ∃ x y, σ = [some (.int t), some (.ref a), some (.int ws.sum), some (.ref D), some (.int (K5M.leftOf t ws)), some (.ref p5), x, y, none] ∧
    Same H H5 ∧ H5 D = some (.lst ((K5M.bump (K5M.baseOf t ws) (((K5M.sortedOf t ws).take (K5M.leftOf t ws).toNat).take i)).map V.int)) ∧ OkL (rP rI rI) p6 ((K5M.sortedOf t ws).take (K5M.leftOf t ws).toNat) H5) ?_ ?_ ?_ ?_
  · exact ⟨_, _, rfl, s14, hD4, _, h6, py6⟩
  · rintro i σ H5 hi ⟨x, y, rfl, s5, h5, o5⟩
    exact o5
  · rintro i d x σ H5 H6 hd ⟨x0, y0, rfl, s5, h5, o5⟩ s6 r
    obtain ⟨T0, x1, x2, rfl, hT, rfl, rfl⟩ := r
    have hd1 := hd
    obtain ⟨j, w0, hw0, ed⟩ := K5M.sorted_mem (List.mem_of_mem_take (List.mem_of_getElem? hd))
    have ej : d.2 = (j : Int) := by rw [ed]
    have hj : j < ws.length := lt_of_get hw0
    have hl : (K5M.bump (K5M.baseOf t ws) (((K5M.sortedOf t ws).take (K5M.leftOf t ws).toNat).take i)).length = ws.length := by rw [K5M.bump_len, K5M.base_len]
    have h6' := s6 _ _ h5
    have hg : (K5M.bump (K5M.baseOf t ws) (((K5M.sortedOf t ws).take (K5M.leftOf t ws).toNat).take i))[j]? = some ((K5M.bump (K5M.baseOf t ws) (((K5M.sortedOf t ws).take (K5M.leftOf t ws).toNat).take i)).getD j 0) := by
      rw [List.getD_eq_getElem?_getD, List.getElem?_eq_getElem (by rw [hl]; exact hj)]
      rfl
    generalize hB : K5M.bump (K5M.baseOf t ws) (((K5M.sortedOf t ws).take (K5M.leftOf t ws).toNat).take i) = B at *
    refine ⟨T0, _, rfl, hT, rfl, _, _, rfl, _, _, rfl, rfl, ?_⟩
    refine ⟨_, rfl, _, rfl, D, _, d.2, .int (B.getD j 0), rfl, rfl, h6', by rw [ej]; exact atI_nat (by rw [List.getElem?_map, hg]; rfl), _, _, rfl, rfl, _, rfl, _, rfl, D, _, _, j, rfl, rfl, h6', by rw [ej, List.length_map, hl]; exact ixN_of hj, ?_⟩
    have np6 : p6 ≠ D := ne6
    refine ⟨_, _, rfl, (s5.trans s6).mut hD, ?_, ?_⟩
    · rw [upd_same, take_more hd1]
      have e1 : K5M.bump (K5M.baseOf t ws) (((K5M.sortedOf t ws).take (K5M.leftOf t ws).toNat).take i ++ [d]) = K5M.step B d := by
        unfold K5M.bump
        rw [List.foldl_append]
        show K5M.step (K5M.bump _ _) d = _
        rw [hB]
      rw [e1]
      unfold K5M.step
      rw [ej, Int.toNat_natCast, List.map_set]
    · obtain ⟨vs, hv, pv⟩ := o5
      refine ⟨vs, ?_, ?_⟩
      · rw [upd_ne np6]
        exact s6 _ _ hv
      · exact mnL (s6.tk.trans (Tk.upd h6' fun _ z => by cases z)) pv
  · rintro σ H5 ⟨x, y, rfl, s5, h5, o5⟩
    rw [List.take_of_length_le (Nat.le_refl _)] at h5
    exact ⟨_, rfl, D, _, rfl, h5, fun p H6 hp s6 h6 => q _ _ (s5.trans s6) ⟨p, _, rfl, h6, int_pr _⟩⟩
end
end K5
set_option maxHeartbeats 4000000
namespace K5
open PySem PySem.Spec PyProof.Rows L2
open K5M (shareOut)
def sumsP (c : County) (t : Int) : List Int := shareOut t (c.map worthSo)
def sharesOf (p : Parish) (own : Int) : List Int := if 0 < worthSo p then shareOut own (p.2.map (·.2.1)) else List.replicate p.2.length 0
def oneParish (p : Parish) (own : Int) : List (Str × Int) := (p.2.zip (sharesOf p own)).map fun x => (x.1.1, x.2)
def sumsH (c : County) (t : Int) : List (Str × Int) := ((c.zip (sumsP c t)).map fun x => oneParish x.1 x.2).flatten
def partsSo (h : House) (own : Int) : List Int := shareOut own (h.2.2.map daysIn ++ [emptySo h])
def sumOf (c : County) (t : Int) (n : Str) : Int := (((sumsH c t).find? fun x => decide (x.1 = n)).map (·.2)).getD 0
def allParts (c : County) (t : Int) : List (Str × List Int) := (allHouses c).map fun h => (h.1, partsSo h (sumOf c t h.1))
def inE (n : Str) (ex : List Str) : Bool := inV (.str n) (ex.map V.str)
def sparedOf (h : House) (own : List Int) (ex : List Str) : Int := (((h.2.2.zip own).filter fun x => inE x.1.1 ex).map (·.2)).sum
def lastI (l : List Int) : Int := l.getLastD 0
def lostRow (c : County) (t : Int) (ex : List Str) (h : House) : Str × Int × Int := (h.1, lastI (partsSo h (sumOf c t h.1)), sparedOf h (partsSo h (sumOf c t h.1)) ex)
def lostOf (c : County) (t : Int) (ex : List Str) : List (Str × Int × Int) := ((allHouses c).map (lostRow c t ex)).filter fun r => decide (0 < r.2.1 + r.2.2)
def withWorth (c : County) (n : Str) (w : Int) : County := c.map fun p => (p.1, p.2.map fun h => (h.1, if h.1 = n then w else h.2.1, h.2.2))
def changedOf (a b : List (Str × Int)) : List (Str × Int × Int) := ((a.zip b).map fun x => (x.1.1, x.1.2, x.2.2)).filter fun r => decide (r.2.1 ≠ r.2.2)

/-! ### worths -/
theorem sum_nn {l : List Int} (h : ∀ x ∈ l, 0 ≤ x) : 0 ≤ l.sum := K5M.sum_nonneg h
theorem mem_le_sum : ∀ {l : List Int}, (∀ x ∈ l, 0 ≤ x) → ∀ x ∈ l, x ≤ l.sum
  | [], _, _, h => by cases h
  | a :: l, h, x, hx => by
    have h1 := h a List.mem_cons_self
    have h2 : ∀ y ∈ l, 0 ≤ y := fun y hy => h y (List.mem_cons_of_mem _ hy)
    rw [List.sum_cons]
    rcases List.mem_cons.mp hx with z | z
    · subst z
      have := sum_nn h2
      omega
    · have := mem_le_sum h2 x z
      omega
theorem CountyOk.house {c : County} (ok : CountyOk c) : ∀ h ∈ allHouses c, HouseOk h := fun h hh => by
  unfold allHouses at hh
  obtain ⟨p, hp, hx⟩ := List.mem_flatMap.mp hh
  exact (ok.all p hp).all h hx
theorem worth_nn {p : Parish} (h : ∀ x ∈ p.2, HouseOk x) : 0 ≤ worthSo p := sum_nn fun x hx => by
  obtain ⟨y, hy, rfl⟩ := List.mem_map.mp hx
  exact (h y hy).lo
theorem worths_all : ∀ c : County, (c.map worthSo).sum = ((allHouses c).map (·.2.1)).sum
  | [] => rfl
  | p :: c => by
    have e : allHouses (p :: c) = p.2 ++ allHouses c := by simp [allHouses]
    rw [e, List.map_cons, List.sum_cons, worths_all c, List.map_append, List.sum_append]
    rfl
theorem worths_pos {c : County} (ok : CountyOk c) (hp : posC c = true) : 0 < (c.map worthSo).sum := by
  rw [worths_all]
  unfold posC at hp
  obtain ⟨h, hh, hw⟩ := List.any_eq_true.mp hp
  have hw := of_decide_eq_true hw
  have := mem_le_sum (l := (allHouses c).map (·.2.1)) (fun x hx => by
    obtain ⟨y, hy, rfl⟩ := List.mem_map.mp hx
    exact (ok.house y hy).lo) h.2.1 (List.mem_map_of_mem hh)
  omega
theorem worths_lt {c : County} (ok : CountyOk c) : (c.map worthSo).sum < 1073741824 := by
  rw [worths_all]
  have := K5M.sum_le (f := fun h : House => h.2.1) (c := 9999) (l := allHouses c) fun h hh => (ok.house h hh).hi
  have hl := ok.len
  have : ((allHouses c).map fun h : House => h.2.1).sum ≤ 599940 := Int.le_trans this (by omega)
  omega
theorem sumsP_len (c : County) (t : Int) : (sumsP c t).length = c.length := by unfold sumsP; rw [K5M.share_len, List.length_map]
theorem sumsP_nn {c : County} {t : Int} (ok : CountyOk c) (hp : posC c = true) (ht : 0 ≤ t) : ∀ x ∈ sumsP c t, 0 ≤ x := K5M.share_nonneg (worths_pos ok hp) ht fun w hw => by
  obtain ⟨p, hp, rfl⟩ := List.mem_map.mp hw
  exact worth_nn (ok.all p hp).all
theorem sumsP_sum {c : County} {t : Int} (ok : CountyOk c) (hp : posC c = true) : (sumsP c t).sum = t := K5M.share_sum (worths_pos ok hp)
theorem sumsP_le {c : County} {t : Int} (ok : CountyOk c) (hp : posC c = true) (ht : 0 ≤ t) : ∀ x ∈ sumsP c t, x ≤ t := fun x hx => by
  have := mem_le_sum (sumsP_nn ok hp ht) x hx
  rw [sumsP_sum ok hp] at this
  exact this
theorem worth_lt {p : Parish} (ok : ParishOk p) : worthSo p < 1073741824 := by
  have := K5M.sum_le (f := fun h : House => h.2.1) (c := 9999) (l := p.2) fun h hh => (ok.all h hh).hi
  have hl := ok.hi
  have : worthSo p ≤ 199980 := Int.le_trans this (by omega)
  omega
theorem shares_len (p : Parish) (own : Int) : (sharesOf p own).length = p.2.length := by
  unfold sharesOf
  by_cases h : 0 < worthSo p
  · rw [if_pos h, K5M.share_len, List.length_map]
  · rw [if_neg h, List.length_replicate]
theorem shares_nn {p : Parish} {own : Int} (ok : ∀ x ∈ p.2, HouseOk x) (h0 : 0 ≤ own) : ∀ x ∈ sharesOf p own, 0 ≤ x := by
  unfold sharesOf
  by_cases h : 0 < worthSo p
  · rw [if_pos h]
    exact K5M.share_nonneg h h0 fun w hw => by
      obtain ⟨y, hy, rfl⟩ := List.mem_map.mp hw
      exact (ok y hy).lo
  · rw [if_neg h]
    intro x hx
    rw [(List.mem_replicate.mp hx).2]
    exact Int.le_refl _
theorem shares_le {p : Parish} {own : Int} (ok : ∀ x ∈ p.2, HouseOk x) (h0 : 0 ≤ own) : ∀ x ∈ sharesOf p own, x ≤ own := by
  intro x hx
  have hn := shares_nn ok h0
  unfold sharesOf at hx hn
  by_cases h : 0 < worthSo p
  · rw [if_pos h] at hx hn
    have := mem_le_sum hn x hx
    rw [K5M.share_sum h] at this
    exact this
  · rw [if_neg h] at hx
    rw [(List.mem_replicate.mp hx).2]
    exact h0
theorem zip_fst {α β : Type} : ∀ {a : List α} {b : List β}, b.length = a.length → (a.zip b).map (·.1) = a
  | [], _, _ => rfl
  | x :: a, [], h => by simp at h
  | x :: a, y :: b, h => by
    rw [List.zip_cons_cons, List.map_cons, zip_fst (by simpa using h)]
theorem zip_snd {α β : Type} : ∀ {a : List α} {b : List β}, b.length = a.length → (a.zip b).map (·.2) = b
  | [], [], _ => rfl
  | [], _ :: _, h => by simp at h
  | x :: a, [], h => by simp at h
  | x :: a, y :: b, h => by
    rw [List.zip_cons_cons, List.map_cons, zip_snd (by simpa using h)]
theorem one_names (p : Parish) (own : Int) : (oneParish p own).map (·.1) = p.2.map (·.1) := by
  unfold oneParish
  rw [List.map_map]
  have := zip_fst (shares_len p own)
  conv => rhs; rw [← this]
  rw [List.map_map]
  rfl
theorem one_sums (p : Parish) (own : Int) : (oneParish p own).map (·.2) = sharesOf p own := by
  unfold oneParish
  rw [List.map_map]
  exact zip_snd (shares_len p own)
theorem flat_names : ∀ {c : County} {s : List Int}, s.length = c.length → (((c.zip s).map fun x => oneParish x.1 x.2).flatten).map (·.1) = (allHouses c).map (·.1)
  | [], _, _ => rfl
  | p :: c, [], h => by simp at h
  | p :: c, y :: s, h => by
    have e : allHouses (p :: c) = p.2 ++ allHouses c := by simp [allHouses]
    rw [List.zip_cons_cons, List.map_cons, List.flatten_cons, List.map_append, one_names, flat_names (by simpa using h), e, List.map_append]
theorem sumsH_names (c : County) (t : Int) : (sumsH c t).map (·.1) = (allHouses c).map (·.1) := flat_names (sumsP_len c t)
theorem sumsH_mem {c : County} {t : Int} {x : Str × Int} (h : x ∈ sumsH c t) : ∃ p own, (p, own) ∈ c.zip (sumsP c t) ∧ x ∈ oneParish p own := by
  unfold sumsH at h
  obtain ⟨l, hl, hx⟩ := List.mem_flatten.mp h
  obtain ⟨y, hy, rfl⟩ := List.mem_map.mp hl
  exact ⟨y.1, y.2, hy, hx⟩
theorem sumsH_bd {c : County} {t : Int} (ok : CountyOk c) (hp : posC c = true) (ht : 0 ≤ t) {x : Str × Int} (h : x ∈ sumsH c t) : 0 ≤ x.2 ∧ x.2 ≤ t := by
  obtain ⟨p, own, hz, hx⟩ := sumsH_mem h
  obtain ⟨hpc, ho⟩ := List.of_mem_zip hz
  have h0 := sumsP_nn ok hp ht own ho
  have h1 := sumsP_le ok hp ht own ho
  have hm : x.2 ∈ sharesOf p own := by
    rw [← one_sums]
    exact List.mem_map_of_mem hx
  have h2 := shares_nn (ok.all p hpc).all h0 _ hm
  have h3 := shares_le (ok.all p hpc).all h0 _ hm
  exact ⟨h2, by omega⟩
theorem sumOf_mem {c : County} {t : Int} {h : House} (hh : h ∈ allHouses c) : (h.1, sumOf c t h.1) ∈ sumsH c t := by
  have hn : h.1 ∈ (sumsH c t).map (·.1) := by
    rw [sumsH_names]
    exact List.mem_map_of_mem hh
  obtain ⟨x, hx, e⟩ := List.mem_map.mp hn
  unfold sumOf
  cases q : (sumsH c t).find? fun x => decide (x.1 = h.1) with
  | none =>
    rw [List.find?_eq_none] at q
    exact absurd (decide_eq_true e) (q x hx)
  | some y =>
    have h1 := List.mem_of_find?_eq_some q
    have h2 : y.1 = h.1 := by simpa using List.find?_some q
    show (h.1, y.2) ∈ _
    rw [← h2]
    exact h1
/-! ### days -/
theorem days_le : ∀ {h : Hold} {r : List Hold}, (∀ x ∈ h :: r, HoldOk x) → Apart (h :: r) → (((h :: r).map daysIn).sum ≤ 360 - h.2.1 + 1)
  | h, [], ok, _ => by
    have := (ok h List.mem_cons_self).hi
    simp only [List.map_cons, List.map_nil, List.sum_cons, List.sum_nil, daysIn]
    omega
  | h, g :: r, ok, ap => by
    have ih := days_le (h := g) (r := r) (fun x hx => ok x (List.mem_cons_of_mem _ hx)) (fun p hp => ap p (List.mem_cons_of_mem _ hp))
    have a1 : h.2.2 < g.2.1 := ap (h, g) List.mem_cons_self
    rw [List.map_cons, List.sum_cons]
    unfold daysIn at *
    omega
theorem empty_nn {h : House} (ok : HouseOk h) : 0 ≤ emptySo h := by
  unfold emptySo
  cases e : h.2.2 with
  | nil => simp
  | cons g r =>
    have h1 := ok.all
    have h2 := ok.apart
    rw [e] at h1 h2
    have := days_le h1 h2
    have := (h1 g List.mem_cons_self).lo
    omega
def wsOf (h : House) : List Int := h.2.2.map daysIn ++ [emptySo h]
theorem ws_sum (h : House) : (wsOf h).sum = 360 := by
  unfold wsOf
  rw [List.sum_append, List.sum_cons, List.sum_nil]
  unfold emptySo
  omega
theorem ws_nn {h : House} (ok : HouseOk h) : ∀ x ∈ wsOf h, 0 ≤ x := fun x hx => by
  unfold wsOf at hx
  rcases List.mem_append.mp hx with z | z
  · obtain ⟨y, hy, rfl⟩ := List.mem_map.mp z
    have := (ok.all y hy).mid
    unfold daysIn
    omega
  · rw [List.mem_singleton.mp z]
    exact empty_nn ok
theorem parts_len (h : House) (own : Int) : (partsSo h own).length = h.2.2.length + 1 := by
  unfold partsSo
  rw [K5M.share_len]
  simp
theorem parts_nn {h : House} (ok : HouseOk h) {own : Int} (h0 : 0 ≤ own) : ∀ x ∈ partsSo h own, 0 ≤ x := K5M.share_nonneg (by show 0 < (wsOf h).sum; rw [ws_sum]; decide) h0 (ws_nn ok)
theorem parts_sum (h : House) (own : Int) : (partsSo h own).sum = own := K5M.share_sum (by show 0 < (wsOf h).sum; rw [ws_sum]; decide)
theorem last_split {l : List Int} {n : Nat} (h : l.length = n + 1) : l = l.dropLast ++ [lastI l] := by
  have hne : l ≠ [] := fun e => by rw [e] at h; simp at h
  unfold lastI
  have e : l.getLastD 0 = l.getLast hne := by
    rw [List.getLastD_eq_getLast?, List.getLast?_eq_some_getLast hne]
    rfl
  rw [e]
  exact (List.dropLast_concat_getLast hne).symm
/-! ### another worth -/
theorem withWorth_houses (n : Str) (w : Int) : ∀ c : County, allHouses (withWorth c n w) = (allHouses c).map fun h => (h.1, if h.1 = n then w else h.2.1, h.2.2)
  | [] => rfl
  | p :: c => by
    have e : allHouses (p :: c) = p.2 ++ allHouses c := by simp [allHouses]
    have e2 : allHouses (withWorth (p :: c) n w) = (p.2.map fun h => (h.1, if h.1 = n then w else h.2.1, h.2.2)) ++ allHouses (withWorth c n w) := by simp [allHouses, withWorth]
    rw [e, e2, withWorth_houses n w c, List.map_append]
theorem withWorth_ok {c : County} {n : Str} {w : Int} (ok : CountyOk c) (h0 : 0 ≤ w) (h1 : w ≤ 9999) : CountyOk (withWorth c n w) := by
  refine ⟨?_, ?_, fun p hp => ?_, ?_, ?_, ?_⟩
  · unfold withWorth; rw [List.length_map]; exact ok.lo
  · unfold withWorth; rw [List.length_map]; exact ok.hi
  · unfold withWorth at hp
    obtain ⟨q, hq, rfl⟩ := List.mem_map.mp hp
    have o := ok.all q hq
    refine ⟨o.nm, ?_, ?_, fun x hx => ?_⟩
    · show 1 ≤ (q.2.map _).length
      rw [List.length_map]; exact o.lo
    · show (q.2.map _).length ≤ 20
      rw [List.length_map]; exact o.hi
    · obtain ⟨y, hy, rfl⟩ := List.mem_map.mp hx
      have oy := o.all y hy
      refine ⟨oy.nm, ?_, ?_, oy.len, oy.all, oy.apart⟩
      · show 0 ≤ (if y.1 = n then w else y.2.1)
        split
        · exact h0
        · exact oy.lo
      · show (if y.1 = n then w else y.2.1) ≤ 9999
        split
        · exact h1
        · exact oy.hi
  · have e : (withWorth c n w).map (·.1) = c.map (·.1) := by
      unfold withWorth
      rw [List.map_map]
      rfl
    rw [e]
    exact ok.nd
  · rw [withWorth_houses, List.length_map]; exact ok.len
  · rw [withWorth_houses, List.map_map]
    exact ok.hnd
end K5
set_option maxHeartbeats 4000000
namespace K5
open PySem PySem.Spec PyProof.Rows L2
open K5M (shareOut)
theorem le0 {α : Type} : ([] : List α).length ≤ 1000000 := by show 0 ≤ 1000000; decide
theorem none_back {H H' : Hp} {p : Addr} (s : Same H H') (h : H' p = none) : H p = none := by
  cases e : H p with
  | none => rfl
  | some o =>
    rw [s _ _ e] at h
    cases h
theorem flat_take_le {α β : Type} (f : α → List β) (l : List α) (i : Nat) : (((l.take i).map f).flatten).length ≤ ((l.map f).flatten).length := by
  have e : (l.map f).flatten = ((l.take i).map f).flatten ++ ((l.drop i).map f).flatten := by rw [← List.flatten_append, ← List.map_append, List.take_append_drop]
  rw [e, List.length_append]; omega
theorem sumsH_len (c : County) (t : Int) : (sumsH c t).length = (allHouses c).length := by
  have := congrArg List.length (sumsH_names c t)
  rwa [List.length_map, List.length_map] at this
theorem okK_kit {K : PySem.W.Frag} {α : Type} {A : Rel α} {k : ZK} {v : V} {ds : List α} {H : Hp} (h : OkK A k v ds H) : ∃ xs, kIt K k H v xs := let ⟨xs, h, _⟩ := okK_it h; ⟨xs, h⟩
theorem pr_rep {H : Hp} (x : Int) : ∀ n : Nat, Paired (rI H) (List.replicate n (V.int x)) (List.replicate n x)
  | 0 => .nil
  | n + 1 => .cons rfl (pr_rep x n)
def CT (vs : List V) (H : Hp) (c : County) (t : Int) : Prop := ∃ v, vs = [v, .int t] ∧ rCounty H v c ∧ CountyOk c ∧ posC c = true ∧ 0 ≤ t ∧ t ≤ 1000000000
def spSumsP : Sp := fun vs H Q _ => ∃ c t, CT vs H c t ∧ ∀ p us H', Same H H' → H p = none → H' p = some (.lst us) → Paired (rI H') us (sumsP c t) → Q (.ref p) H'
def spSumsH : Sp := fun vs H Q _ => ∃ c t, CT vs H c t ∧ ∀ p us H', Same H H' → H p = none → H' p = some (.lst us) → Paired (rP rS rI H') us (sumsH c t) → Q (.ref p) H'
def spPartsSo : Sp := fun vs H Q _ => ∃ v h own, vs = [v, .int own] ∧ rHouse H v h ∧ HouseOk h ∧ 0 ≤ own ∧ own ≤ 1000000000 ∧ ∀ v H', Same H H' → rTL rI H' v (partsSo h own) → Q v H'
def spAllParts : Sp := fun vs H Q _ => ∃ c t, CT vs H c t ∧ ∀ p kvs H', Same H H' → H p = none → H' p = some (.dK kvs) → Paired (rKV (rTL rI) H') kvs (allParts c t) → Q (.ref p) H'
section
variable {P : Program} {w : World} {K : PySem.W.Frag} {mg : Str → Option Value} {base : Heap}
abbrev N_sums_of_parishes : List Str := ["county", "total", "parish"]
theorem sc_sums_of_parishes : FnScope N_sums_of_parishes ["county", "total"] (defScope (top 48)) := ⟨rfl, rfl, rfl, by decide +kernel, rfl, by decide +kernel, by decide +kernel⟩
theorem c_sums_of_parishes (T : Txt w K mg) : Cl P w K mg base CX0 3 "sums_of_parishes" spSumsP := by
  refine Cl.of T.d_sums_of_parishes sc_sums_of_parishes (fun _ _ _ _ _ _ us h => by obtain ⟨u0, u1, rfl⟩ := len2 h; rfl) (fun vs H Q E h => by obtain ⟨c, t, ⟨v, rfl, ⟨a, us, rfl, ha, pu⟩, ok, hp, h0, h1⟩, q⟩ := h; rfl) fun f cdv A outer s H vs Q E hr h => ?_
  obtain ⟨c, t, ⟨v, rfl, ⟨a, us, rfl, ha, pu⟩, ok, hp, h0, h1⟩, q⟩ := h
  refine ⟨_, PSs.nox ((pss_one (ps_ret (pe_callTy call_listS (by rfl) T.f_list boot_list (pa_cons (pc (c_share_out T) (hr.mono (by decide)) pass0 (pa_cons (pv 1) (pa_cons (pe_lcS (own := [("parish", 2)]) (by rfl) sc_sums_of_parishes.nd (pi_tup (pv 0)) (blkOk_by (own := [("parish", 2)]) (N := N_sums_of_parishes) (sc := defScope (top 48)) (by decide +kernel)) (fun _ _ _ _ _ => (pg_name (i := 2) sc_sums_of_parishes.nd rfl (Or.inl rfl))) (fun _ _ _ _ _ => pts_nil) (fun _ _ _ _ _ => (pc (c_worth_so T) (hr.mono (by decide)) pass0 (pa_cons (pv 2) pa_nil)))) pa_nil))) pa_nil))))), ?_⟩
  have hul : us.length = c.length := pr_len pu
  have hc := ok.hi
  refine ⟨_, rfl, _, rfl, a, rfl, ⟨us, SqT.of ha⟩, fun D hD => ?_⟩
  refine lcM (A := rParish) (B := rI) (ds := c) src_tup worthSo hD (by omega) (fun H2 s2 => okT_mono s2.tk ⟨us, ha, pu⟩) (fun i d x H2 hd s2 r => ?_) fun acc H1 s1 hD1 pa => ?_
  · exact ⟨rfl, _, rfl, x, d, rfl, r, Nat.le_trans (ok.all d (List.mem_of_getElem? hd)).hi (by decide), fun H3 s3 => ⟨s3, rfl⟩⟩
  refine ⟨t, D, _, acc, rfl, hD1, pa, h0, h1, worths_pos ok hp, worths_lt ok, by rw [List.length_map]; omega, fun v H2 s2 r => ?_⟩
  obtain ⟨b, vs, rfl, hb, pb⟩ := r
  exact ⟨b, vs, rfl, .inr hb, fun p H3 hp s3 h3 => q _ _ _ (s1.trans (s2.trans s3)) (none_back (s1.trans s2) hp) h3 (mnL s3.tk pb)⟩
abbrev N_sums_of_houses : List Str := ["county", "total", "found", "parish", "own", "worths", "sums", "house", "one"]
theorem sc_sums_of_houses : FnScope N_sums_of_houses ["county", "total"] (defScope (top 49)) := ⟨rfl, rfl, rfl, by decide +kernel, rfl, by decide +kernel, by decide +kernel⟩
theorem c_sums_of_houses (T : Txt w K mg) : Cl P w K mg base CX0 4 "sums_of_houses" spSumsH := by
  refine Cl.of T.d_sums_of_houses sc_sums_of_houses (fun _ _ _ _ _ _ us h => by obtain ⟨u0, u1, rfl⟩ := len2 h; rfl) (fun vs H Q E h => by obtain ⟨c, t, ⟨v, rfl, ⟨a, us, rfl, ha, pu⟩, ok, hp, h0, h1⟩, q⟩ := h; rfl) fun f cdv A outer s H vs Q E hr h => ?_
  obtain ⟨c, t, ⟨v, rfl, ⟨a, us, rfl, ha, pu⟩, ok, hp, h0, h1⟩, q⟩ := h
  refine ⟨_, PSs.nox ((pss_cons (ps_set (i := 2) sc_sums_of_houses.nd rfl (Or.inl rfl) (pe_lstS pa_nil))
  (pss_cons (ps_for PassesOwn.never rfl (pi_zipX (by rfl) T.f_zip (pa_cons (pv 0) (pa_cons (pc (c_sums_of_parishes T) (hr.mono (by decide)) pass0 (pa_cons (pv 0) (pa_cons (pv 1) pa_nil))) pa_nil))) (pg_tupS (n := 2) rfl (pgs_cons (pg_name (i := 3) sc_sums_of_houses.nd rfl (Or.inl rfl)) (pgs_cons (pg_name (i := 4) sc_sums_of_houses.nd rfl (Or.inl rfl)) pgs_nil)))
  (pss_cons (ps_setLcS (i := 5) (own := [("house", 7)]) rfl sc_sums_of_houses.nd rfl rfl (sw_true rfl rfl rfl (by decide +kernel)) (pi_tup (pe_ix ix_tupS (pv 3) pe_int (fun _ _ => rfl))) (blkOk_by (own := [("house", 7)]) (N := N_sums_of_houses) (sc := defScope (top 49)) (by decide +kernel)) (fun _ _ _ _ _ => (pg_name (i := 7) sc_sums_of_houses.nd rfl (Or.inl rfl))) (fun _ _ _ _ _ => pts_nil) (fun _ _ _ _ _ => (pe_ix ix_tupS (pv 7) pe_int (fun _ _ => rfl))))
  (pss_cons (ps_set (i := 6) sc_sums_of_houses.nd rfl (Or.inl rfl) (L2.PE.cl (pe_ifExp (pt_cmpR op_gt (pc (c_worth_so T) (hr.mono (by decide)) pass0 (pa_cons (pv 3) pa_nil)) pe_int (nomark _)) (pc (c_share_out T) (hr.mono (by decide)) pass0 (pa_cons (pv 4) (pa_cons (pv 5) pa_nil))) (pe_op op_repS (pe_lstS (pa_cons pe_int pa_nil)) (pe_callB call_lenS (by rfl) T.f_len boot_len (pa_cons (pv 5) pa_nil))))))
  (pss_one (ps_expr (pe_bm PySem.F.plainAttrs_list PySem.F.slot_list_extend PySem.F.type_list_extend mt_extend (pv 2) (pa_cons (pe_lcS (own := [("house", 7), ("one", 8)]) (by rfl) sc_sums_of_houses.nd (pi_zipX (by rfl) T.f_zip (pa_cons (pe_ix ix_tupS (pv 3) pe_int (fun _ _ => rfl)) (pa_cons (pv 6) pa_nil))) (blkOk_by (own := [("house", 7), ("one", 8)]) (N := N_sums_of_houses) (sc := defScope (top 49)) (by decide +kernel)) (fun _ _ _ _ _ => (pg_tupS (n := 2) rfl (pgs_cons (pg_name (i := 7) sc_sums_of_houses.nd rfl (Or.inl rfl)) (pgs_cons (pg_name (i := 8) sc_sums_of_houses.nd rfl (Or.inl rfl)) pgs_nil)))) (fun _ _ _ _ _ => pts_nil) (fun _ _ _ _ _ => (pe_tupS (pa_cons (pe_ix ix_tupS (pv 7) pe_int (fun _ _ => rfl)) (pa_cons (pv 8) pa_nil))))) pa_nil)))))))
  (pss_one (ps_ret (pv 2)))))), ?_⟩
  have hul : us.length = c.length := pr_len pu
  have hc := ok.hi
  refine ⟨le0, fun p H1 hp1 s1 h1' => ?_⟩
  refine ⟨_, rfl, _, rfl, _, rfl, c, t, ⟨_, rfl, ⟨a, us, rfl, s1 _ _ ha, mnL s1.tk pu⟩, ok, hp, h0, h1⟩, fun p2 us2 H2 s2 hp2 h2 pu2 => ?_⟩
  have s12 := s1.trans s2
  refine ⟨.t, .l, _, _, us, us2, rfl, ⟨a, rfl, SqT.of (s12 _ _ ha)⟩, ⟨p2, rfl, SqL.of h2⟩, ?_⟩
  have ne2 : p ≠ p2 := ne_of_none h1' hp2
  refine forS (A := rP rParish rI) (ds := c.zip (sumsP c t)) src_zip (Pv := fun i σ H3 => ∃ x3 x4 x5 x6 acc, σ = [some (.ref a), some (.int t), some (.ref p), x3, x4, x5, x6, none, none] ∧ Same H H3 ∧ H3 p = some (.lst acc) ∧
    Paired (rP rS rI H3) acc ((((c.zip (sumsP c t)).take i).map fun x => oneParish x.1 x.2).flatten) ∧ OkL rI p2 (sumsP c t) H3) ?_ ?_ ?_ ?_
  · exact ⟨_, _, _, _, [], rfl, s12, s2 _ _ h1', .nil, us2, h2, pu2⟩
  · rintro i σ H3 hi ⟨x3, x4, x5, x6, acc, rfl, s3, h3, p3, o3⟩
    exact ⟨okK_mono s3 (k := .t) ⟨a, rfl, us, ha, pu⟩, p2, rfl, o3⟩
  · rintro i ⟨d, own⟩ x σ H3 H4 hd ⟨x3, x4, x5, x6, acc, rfl, s3, h3, p3, o3⟩ s4 r
    obtain ⟨T0, x1, x2, rfl, hT, r1, rfl⟩ := r
    have hz := List.of_mem_zip (List.mem_of_getElem? hd)
    have okp := ok.all d hz.1
    have ow0 := sumsP_nn ok hp h0 own hz.2
    have ow1 := sumsP_le ok hp h0 own hz.2
    have hdl := okp.hi
    have rp := r1
    obtain ⟨b, y1, y2, rfl, hb, rfl, b2, vs, rfl, hb2, pv2⟩ := r1
    have hvl : vs.length = d.2.length := pr_len pv2
    refine ⟨T0, _, rfl, hT, rfl, _, _, rfl, _, _, rfl, rfl, ?_⟩
    refine ⟨_, rfl, b, _, 1, _, rfl, rfl, hb, rfl, b2, rfl, ⟨vs, SqT.of hb2⟩, fun D hD => ?_⟩
    refine lcM (A := rHouse) (B := rI) (ds := d.2) src_tup (fun h => h.2.1) hD (by omega) (fun H5 s5 => okT_mono s5.tk ⟨vs, hb2, pv2⟩) (fun i d x H5 hd s5 r => ?_) fun acc2 H5 s5 hD5 pa5 => ?_
    · obtain ⟨a1, z1, z2, z3, rfl, g1, rfl, rfl, _⟩ := r
      exact ⟨rfl, _, rfl, a1, _, 1, _, rfl, rfl, g1, rfl, Same.refl _, rfl⟩
    have hal : acc2.length = d.2.length := by rw [pr_len pa5, List.length_map]
    refine ⟨fun v H6 => Same H5 H6 ∧ ∃ k, OkK rI k v (sharesOf d own) H6, ⟨_, rfl, _, d, rfl, mn s5 rp, by omega, fun H6 s6 => ⟨_, _, rfl, rfl, _, rfl, ite2 (fun hw => ?_) (fun hw => ?_)⟩⟩, fun v H6 hR => ?_⟩
    · have hw := of_decide_eq_true hw
      refine ⟨_, rfl, _, rfl, own, D, _, acc2, rfl, s6 _ _ hD5, mnL s6.tk pa5, ow0, by omega, hw, worth_lt okp, by rw [List.length_map]; omega, fun v H7 s7 r7 => ⟨s6.trans s7, .t, ?_⟩⟩
      obtain ⟨e, es, rfl, he, pe⟩ := r7
      refine ⟨e, rfl, es, he, ?_⟩
      unfold sharesOf
      rw [if_pos hw]
      exact pe
    · have hw : ¬ 0 < worthSo d := fun z => hw (decide_eq_true z)
      refine ⟨le1, fun p7 H7 hp7 s7 h7 => ⟨_, rfl, D, acc2, rfl, .inl (s7 _ _ (s6 _ _ hD5)), p7, _, _, rfl, rfl, h7, by omega, by omega, fun p8 H8 hp8 s8 h8 => ⟨s6.trans (s7.trans s8), .l, p8, rfl, _, h8, ?_⟩⟩⟩
      unfold sharesOf
      rw [if_neg hw, Int.toNat_natCast, hal]
      exact pr_rep 0 _
    · obtain ⟨s6, k, ok6⟩ := hR
      have s46 := s5.trans s6
      have s36 := s4.trans s46
      have h6 := s36 _ _ h3
      obtain ⟨ws, kw⟩ := okK_kit (K := K) ok6
      refine ⟨_, rfl, .inl ⟨rfl, _, SqL.of h6⟩, _, rfl, b, _, 1, _, rfl, rfl, s46 _ _ hb, rfl, _, rfl, .t, k, _, _, vs, ws, rfl, ⟨b2, rfl, SqT.of (s46 _ _ hb2)⟩, kw, fun D9 hD9 => ?_⟩
      refine lcM (A := rP rHouse rI) (B := rP rS rI) (ds := d.2.zip (sharesOf d own)) src_zip (fun x => (x.1.1, x.2)) hD9 (by rw [List.length_zip]; omega)
        (fun H7 s7 => ⟨okK_mono (s46.trans s7) (k := .t) ⟨b2, rfl, vs, hb2, pv2⟩, okK_mono s7 ok6⟩) (fun i e x H7 hd s7 r => ?_) fun acc9 H9 s9 hD9' pa9 => ?_
      · obtain ⟨T1, g1, g2, rfl, hT1, ⟨a1, z1, z2, z3, rfl, f1, rfl, rfl, _⟩, rfl⟩ := r
        exact ⟨T1, _, rfl, hT1, rfl, _, _, rfl, _, _, rfl, rfl, rfl, _, rfl, a1, _, 0, _, rfl, rfl, f1, rfl, _, rfl, le2, fun p8 H8 hp8 s8 h8 => ⟨s8, p8, _, _, rfl, h8, rfl, rfl⟩⟩
      have h9 := s9 _ _ h6
      have s39 := s36.trans s9
      have hal9 : acc9.length ≤ 20 := by
        rw [pr_len pa9, List.length_map, List.length_zip]; omega
      have hlen : acc.length ≤ 60 := by
        rw [pr_len p3]
        have h1 := flat_take_le (fun x : Parish × Int => oneParish x.1 x.2) (c.zip (sumsP c t)) i
        have h2 : (((c.zip (sumsP c t)).map fun x => oneParish x.1 x.2).flatten).length = (allHouses c).length := sumsH_len c t
        have h3 := ok.len
        omega
      refine ⟨p, D9, acc, acc9, rfl, rfl, h9, hD9', line_of (by omega), ?_⟩
      have tk : Tk H9 (upd H9 p (.lst (acc ++ acc9))) := Tk.upd h9 fun _ z => by cases z
      refine ⟨_, _, _, _, acc ++ acc9, rfl, (s3.trans s39).mut ?_, upd_same, ?_, ?_⟩
      · exact hp1
      · rw [take_more hd, List.map_append, List.flatten_append]
        refine pr_app (mnL (s39.tk.trans tk) p3) ?_
        have e : (([(d, own)].map fun x : Parish × Int => oneParish x.1 x.2).flatten) = (d.2.zip (sharesOf d own)).map fun x => (x.1.1, x.2) := by simp [oneParish]
        rw [e]
        exact mnL tk pa9
      · obtain ⟨zs, hz, pz⟩ := o3
        exact ⟨zs, by rw [upd_ne (Ne.symm ne2)]; exact s39 _ _ hz, mnL (s39.tk.trans tk) pz⟩
  · rintro σ H3 ⟨x3, x4, x5, x6, acc, rfl, s3, h3, p3, o3⟩
    rw [List.take_of_length_le (Nat.le_refl _)] at p3
    exact ⟨_, rfl, q _ _ _ s3 hp1 h3 p3⟩
abbrev N_parts_so : List Str := ["house", "own", "one"]
theorem sc_parts_so : FnScope N_parts_so ["house", "own"] (defScope (top 50)) := ⟨rfl, rfl, rfl, by decide +kernel, rfl, by decide +kernel, by decide +kernel⟩
theorem c_parts_so (T : Txt w K mg) : Cl P w K mg base CX0 3 "parts_so" spPartsSo := by
  refine Cl.of T.d_parts_so sc_parts_so (fun _ _ _ _ _ _ us h => by obtain ⟨u0, u1, rfl⟩ := len2 h; rfl) (fun vs H Q E h => by obtain ⟨v, h, own, rfl, r, ok, h0, h1, q⟩ := h; rfl) fun f cdv A outer s H vs Q E hr h => ?_
  obtain ⟨v, h, own, rfl, r, ok, h0, h1, q⟩ := h
  refine ⟨_, PSs.nox ((pss_one (ps_ret (pc (c_share_out T) (hr.mono (by decide)) pass0 (pa_cons (pv 1) (pa_cons (pe_op op_catS (pe_lcS (own := [("one", 2)]) (by rfl) sc_parts_so.nd (pi_tup (pe_ix ix_tupS (pv 0) pe_int (fun _ _ => rfl))) (blkOk_by (own := [("one", 2)]) (N := N_parts_so) (sc := defScope (top 50)) (by decide +kernel)) (fun _ _ _ _ _ => (pg_name (i := 2) sc_parts_so.nd rfl (Or.inl rfl))) (fun _ _ _ _ _ => pts_nil) (fun _ _ _ _ _ => (pc (c_days_in T) (hr.mono (by decide)) pass0 (pa_cons (pv 2) pa_nil)))) (pe_lstS (pa_cons (pc (c_empty_so T) (hr.mono (by decide)) pass0 (pa_cons (pv 0) pa_nil)) pa_nil))) pa_nil)))))), ?_⟩
  have rh := r
  obtain ⟨a, x1, x2, x3, rfl, ha, rfl, rfl, b, us, rfl, hb, pu⟩ := r
  have hul : us.length = h.2.2.length := pr_len pu
  have hl := ok.len
  refine ⟨_, rfl, _, rfl, a, _, 2, _, rfl, rfl, ha, rfl, b, rfl, ⟨us, SqT.of hb⟩, fun D hD => ?_⟩
  refine lcM (A := rHold) (B := rI) (ds := h.2.2) src_tup daysIn hD (by omega) (fun H2 s2 => okT_mono s2.tk ⟨us, hb, pu⟩) (fun i d x H2 hd s2 r => ?_) fun acc H1 s1 hD1 pa => ?_
  · exact ⟨rfl, _, rfl, x, d, rfl, r, Same.refl _, rfl⟩
  have hal : acc.length = h.2.2.length := by rw [pr_len pa, List.length_map]
  refine ⟨_, rfl, _, h, rfl, mn s1 rh, by omega, fun H2 s2 => ⟨le1, fun p3 H3 hp3 s3 h3 => ?_⟩⟩
  have hD3 := s3 _ _ (s2 _ _ hD1)
  refine ⟨D, p3, acc, _, rfl, rfl, hD3, h3, by rw [hal]; show h.2.2.length + 1 ≤ 1000000; omega, fun p4 H4 hp4 s4 h4 => ?_⟩
  have s34 := s3.trans s4
  have s14 := s2.trans s34
  refine ⟨own, p4, wsOf h, _, rfl, h4, pr_app (mnL s14.tk pa) (.cons rfl .nil), h0, h1, by rw [ws_sum]; decide, by rw [ws_sum]; decide, ?_, fun v H5 s5 r5 => q _ _ (s1.trans (s14.trans s5)) r5⟩
  unfold wsOf
  rw [List.length_append, List.length_map]
  show h.2.2.length + 1 ≤ 1000
  omega
abbrev N_all_parts : List Str := ["county", "total", "sums", "house"]
theorem sc_all_parts : FnScope N_all_parts ["county", "total"] (defScope (top 51)) := ⟨rfl, rfl, rfl, by decide +kernel, rfl, by decide +kernel, by decide +kernel⟩
theorem c_all_parts (T : Txt w K mg) : Cl P w K mg base CX0 5 "all_parts" spAllParts := by
  refine Cl.of T.d_all_parts sc_all_parts (fun _ _ _ _ _ _ us h => by obtain ⟨u0, u1, rfl⟩ := len2 h; rfl) (fun vs H Q E h => by obtain ⟨c, t, ⟨v, rfl, rc, ok, hp, h0, h1⟩, q⟩ := h; rfl) fun f cdv A outer s H vs Q E hr h => ?_
  obtain ⟨c, t, ⟨v, rfl, rc, ok, hp, h0, h1⟩, q⟩ := h
  refine ⟨_, PSs.nox ((pss_cons (ps_set (i := 2) sc_all_parts.nd rfl (Or.inr rfl) (pe_callTy (call_dictS rfl) (by rfl) T.f_dict boot_dict (pa_cons (pc (c_sums_of_houses T) (hr.mono (by decide)) pass0 (pa_cons (pv 0) (pa_cons (pv 1) pa_nil))) pa_nil)))
  (pss_one (ps_ret (pe_callTy (call_dictS rfl) (by rfl) T.f_dict boot_dict (pa_cons (pe_lcS (own := [("house", 3)]) (by rfl) sc_all_parts.nd (pi_list (pc (c_all_houses T) (hr.mono (by decide)) pass0 (pa_cons (pv 0) pa_nil))) (blkOk_by (own := [("house", 3)]) (N := N_all_parts) (sc := defScope (top 51)) (by decide +kernel)) (fun _ _ _ _ _ => (pg_name (i := 3) sc_all_parts.nd rfl (Or.inl rfl))) (fun _ _ _ _ _ => pts_nil) (fun _ _ _ _ _ => (pe_tupS (pa_cons (pe_ix ix_tupS (pv 3) pe_int (fun _ _ => rfl)) (pa_cons (pc (c_parts_so T) (hr.mono (by decide)) pass0 (pa_cons (pv 3) (pa_cons (pe_dget (hu_of hr) (pv 2) (pe_ix ix_tupS (pv 3) pe_int (fun _ _ => rfl)) (fun _ _ => rfl)) pa_nil))) pa_nil))))) pa_nil)))))), ?_⟩
  have hc := ok.hi
  have hl := ok.len
  refine ⟨_, rfl, _, rfl, c, t, ⟨_, rfl, rc, ok, hp, h0, h1⟩, fun p1 us1 H1 s1 hp1 h1' pu1 => ?_⟩
  refine ⟨Int, rI, inferInstance, p1, us1, sumsH c t, rfl, h1', pu1, by rw [sumsH_names]; exact ok.hnd, fun p2 kvs H2 hp2 s2 h2 pk => ?_⟩
  have s12 := s1.trans s2
  refine ⟨_, rfl, _, c, rfl, mn s12 rc, by omega, by omega, fun p3 us3 H3 s3 _ h3 pu3 => ?_⟩
  refine ⟨p3, rfl, ⟨us3, SqL.of h3⟩, fun D hD => ?_⟩
  have s13 := s12.trans s3
  refine lcM (A := rHouse) (B := rP rS (rTL rI)) (ds := allHouses c) src_list (fun h => (h.1, partsSo h (sumOf c t h.1))) hD (by omega) (fun H4 s4 => okL_mono s4 ⟨us3, h3, pu3⟩) (fun i d x H4 hd s4 r => ?_) fun acc H4 s4 hD4 pa => ?_
  · have hm := List.mem_of_getElem? hd
    have rh := r
    obtain ⟨a, x1, x2, x3, rfl, ha, rfl, _⟩ := r
    have hsm := sumOf_mem (t := t) hm
    obtain ⟨y, hy, ry⟩ := kv_find (kv_mono (s3.trans s4).tk pk) (by rw [sumsH_names]; exact ok.hnd) hsm
    obtain rfl : y = .int (sumOf c t d.1) := ry
    have hb := sumsH_bd ok hp h0 hsm
    have hb2 : sumOf c t d.1 ≤ t := hb.2
    refine ⟨rfl, _, rfl, a, _, 0, _, rfl, rfl, ha, rfl, _, rfl, _, rfl, _, rfl, a, _, 0, _, rfl, rfl, ha, rfl, p2, _, rfl, ?_, _, d, _, rfl, rh, ok.house d hm, hb.1, by omega, fun v H5 s5 r5 => ⟨le2, fun p6 H6 hp6 s6 h6 => ⟨s5.trans s6, p6, _, _, rfl, h6, rfl, mn s6 r5⟩⟩⟩
    have g := DGet.k (k := Sum.inr d.1) (s4 _ _ (s3 _ _ h2))
    rw [hy] at g
    exact g
  refine ⟨List Int, rTL rI, inferInstance, D, acc, allParts c t, rfl, hD4, pa, ?_, fun p5 kvs5 H5 hp5 s5 h5 pk5 => q _ _ _ ((s13.trans s4).trans s5) (none_back (s13.trans s4) hp5) h5 pk5⟩
  unfold allParts
  rw [List.map_map]
  exact ok.hnd
end
end K5
set_option maxHeartbeats 4000000
namespace K5
open PySem PySem.Spec PyProof.Rows L2
open K5M (shareOut)
theorem atI_lastI {l : List Int} {n : Nat} (h : l.length = n + 1) : atI (l.map V.int) (-1) = some (.int (lastI l)) := by
  conv => lhs; rw [last_split h]
  rw [List.map_append]
  exact atI_last _ _
theorem flat_strs : ∀ l : List Str, (l.map V.str).all flatV = true
  | [] => rfl
  | a :: l => by rw [List.map_cons, List.all_cons, flat_strs l]; rfl
theorem inV_strs (n : Str) : ∀ l : List Str, inV (.str n) (l.map V.str) = decide (n ∈ l)
  | [] => by simp [inV]
  | a :: l => by
    show (eqV (.str a) (.str n) || inV (.str n) (l.map V.str)) = _
    rw [inV_strs n l]
    have e : eqV (.str a) (.str n) = decide (n = a) := by
      show (a == n) = _
      by_cases h : a = n
      · subst h; simp
      · rw [beq_false_of_ne h, decide_eq_false (fun z => h z.symm)]
    rw [e, Bool.eq_iff_iff]
    simp
def spLost : Sp := fun vs H Q _ => ∃ c t ex v e, vs = [v, .int t, e] ∧ CT [v, .int t] H c t ∧ rTL rS H e ex ∧ ExcOk ex ∧ ∀ v H', Same H H' → rTL (rT3 rS rI rI) H' v (lostOf c t ex) → Q v H'
def spWithWorth : Sp := fun vs H Q _ => ∃ c v n wo, vs = [v, .str n, .int wo] ∧ rCounty H v c ∧ CountyOk c ∧ ∀ v H', Same H H' → rCounty H' v (withWorth c n wo) → Q v H'
def spChanged : Sp := fun vs H Q _ => ∃ p1 p2 xs ys as bs, vs = [.ref p1, .ref p2] ∧ H p1 = some (.lst xs) ∧ H p2 = some (.lst ys) ∧ Paired (rP rS rI H) xs as ∧ Paired (rP rS rI H) ys bs ∧ as.length ≤ 1000 ∧
  ∀ v H', Same H H' → rTL (rT3 rS rI rI) H' v (changedOf as bs) → Q v H'
def spWonSo (C : Addr) : Sp := fun vs H Q E => ∃ c v u n wo a, vs = [v, u] ∧ rCounty H v c ∧ CountyOk c ∧ u = .ref a ∧ H a = some (.tup [.str n, .int wo]) ∧ NameOk n ∧ 0 ≤ wo ∧ wo ≤ 9999 ∧
  (∀ v H', Same H H' → rCounty H' v (withWorth c n wo) → n ∈ (allHouses c).map (·.1) → posC (withWorth c n wo) = true → Q v H') ∧
  (∀ H', Same H H' → ¬ (n ∈ (allHouses c).map (·.1) ∧ posC (withWorth c n wo) = true) → E (.ref C) none H')
section
variable {P : Program} {w : World} {K : PySem.W.Frag} {mg : Str → Option Value} {base : Heap}
abbrev N_lost : List Str := ["county", "total", "excused", "known", "found", "house", "own", "spared", "holding", "part"]
theorem sc_lost : FnScope N_lost ["county", "total", "excused"] (defScope (top 53)) := ⟨rfl, rfl, rfl, by decide +kernel, rfl, by decide +kernel, by decide +kernel⟩
theorem c_lost (T : Txt w K mg) : Cl P w K mg base CX0 8 "lost" spLost := by
  refine Cl.of T.d_lost sc_lost (fun _ _ _ _ _ _ us h => by obtain ⟨u0, u1, u2, rfl⟩ := len3 h; rfl) (fun vs H Q E h => by obtain ⟨c, t, ex, v, e, rfl, ct, re, oe, q⟩ := h; rfl) fun f cdv A outer s H vs Q E hr h => ?_
  obtain ⟨c, t, ex, v, e, rfl, ct, re, oe, q⟩ := h
  refine ⟨_, PSs.nox ((pss_cons (ps_expr (pc (c_need_asked T) (hr.mono (by decide)) pass0 (pa_cons (pv 0) (pa_cons (pv 1) pa_nil))))
  (pss_cons (ps_expr (pc (c_need_excused T) (hr.mono (by decide)) pass0 (pa_cons (pv 2) pa_nil)))
  (pss_cons (ps_par (i := 3) (j := 4) rfl sc_lost.nd rfl rfl (by decide) rfl rfl (pa_cons (pc (c_all_parts T) (hr.mono (by decide)) pass0 (pa_cons (pv 0) (pa_cons (pv 1) pa_nil))) (pa_cons (pe_lstS pa_nil) pa_nil)) (by rfl))
  (pss_cons (ps_for PassesOwn.never rfl (pi_list (pc (c_all_houses T) (hr.mono (by decide)) pass0 (pa_cons (pv 0) pa_nil))) (pg_name (i := 5) sc_lost.nd rfl (Or.inl rfl))
  (pss_cons (ps_set (i := 6) sc_lost.nd rfl (Or.inl rfl) (pe_dget (hu_of hr) (pv 3) (pe_ix ix_tupS (pv 5) pe_int (fun _ _ => rfl)) (fun _ _ => rfl)))
  (pss_cons (ps_set (i := 7) sc_lost.nd rfl (Or.inl rfl) (pe_callB (cr_sumS rfl) (by rfl) T.f_sum boot_sum (pa_cons (pe_lcS (own := [("holding", 8), ("part", 9)]) (by rfl) sc_lost.nd (pi_zipX (by rfl) T.f_zip (pa_cons (pe_ix ix_tupS (pv 5) pe_int (fun _ _ => rfl)) (pa_cons (pv 6) pa_nil))) (blkOk_by (own := [("holding", 8), ("part", 9)]) (N := N_lost) (sc := defScope (top 53)) (by decide +kernel)) (fun _ _ _ _ _ => (pg_tupS (n := 2) rfl (pgs_cons (pg_name (i := 8) sc_lost.nd rfl (Or.inl rfl)) (pgs_cons (pg_name (i := 9) sc_lost.nd rfl (Or.inl rfl)) pgs_nil)))) (fun _ _ _ _ _ => (pts_one (pt_cmpR op_inS (pe_ix ix_tupS (pv 8) pe_int (fun _ _ => rfl)) (pv 2) rfl))) (fun _ _ _ _ _ => (pv 9))) pa_nil)))
  (pss_one (ps_if (pt_cmpR op_gt (pe_op op_add (pe_ix ix_tupS (pv 6) (pe_un un_neg pe_int) (fun _ _ => rfl)) (pv 7)) pe_int (nomark _)) (pss_one (ps_expr (pe_bm PySem.F.plainAttrs_list PySem.F.slot_list_append PySem.F.type_list_append mt_append (pv 4) (pa_cons (pe_tupS (pa_cons (pe_ix ix_tupS (pv 5) pe_int (fun _ _ => rfl)) (pa_cons (pe_ix ix_tupS (pv 6) (pe_un un_neg pe_int) (fun _ _ => rfl)) (pa_cons (pv 7) pa_nil)))) pa_nil)))) pss_nil)))))
  (pss_one (ps_ret (pe_callTy call_tupleS (by rfl) T.f_tuple boot_tuple (pa_cons (pv 4) pa_nil))))))))), ?_⟩
  obtain ⟨v', hv', rc, ok, hp, h0, h1⟩ := ct
  obtain rfl : v' = v := by injection hv' with z; exact z.symm
  have hl := ok.len
  have hc := ok.hi
  refine ⟨_, rfl, _, rfl, _, c, t, rfl, rc, ok, hp, h0, h1, fun H1 s1 => ?_⟩
  refine ⟨_, rfl, e, ex, rfl, mn s1 re, oe, fun H2 s2 => ?_⟩
  have s12 := s1.trans s2
  refine ⟨_, rfl, _, rfl, c, t, ⟨_, rfl, mn s12 rc, ok, hp, h0, h1⟩, fun p1 kvs H3 s3 hp1 h1' pk => ⟨le0, fun p2 H4 hp2 s4 h2 => ⟨_, _, rfl, ?_⟩⟩⟩
  have s14 := s12.trans (s3.trans s4)
  have hnp2 : H p2 = none := none_back (s12.trans s3) hp2
  have n12 : p1 ≠ p2 := ne_of_none h1' hp2
  refine ⟨_, rfl, _, c, rfl, mn s14 rc, by omega, by omega, fun p3 us3 H5 s5 hp3 h3 pu3 => ?_⟩
  have n32 : p3 ≠ p2 := (ne_of_none h2 hp3).symm
  have s15 := s14.trans s5
  obtain ⟨ea, es, rfl, hea, pes⟩ := re
  refine ⟨p3, rfl, ⟨us3, SqL.of h3⟩, ?_⟩
  refine forS (A := rHouse) (ds := allHouses c) src_list (Pv := fun i σ H6 => ∃ x5 x6 x7 acc, σ = [some v', some (.int t), some (.ref ea), some (.ref p1), some (.ref p2), x5, x6, x7, none, none] ∧ Same H H6 ∧ H6 p2 = some (.lst acc) ∧
    Paired (rT3 rS rI rI H6) acc ((((allHouses c).take i).map (lostRow c t ex)).filter fun r => decide (0 < r.2.1 + r.2.2)) ∧ H6 p1 = some (.dK kvs) ∧ Paired (rKV (rTL rI) H6) kvs (allParts c t) ∧ OkL rHouse p3 (allHouses c) H6) ?_ ?_ ?_ ?_
  · exact ⟨_, _, _, [], rfl, s15, s5 _ _ h2, .nil, s5 _ _ (s4 _ _ h1'), kv_mono (s4.trans s5).tk pk, us3, h3, pu3⟩
  · rintro i σ H6 hi ⟨x5, x6, x7, acc, rfl, s6, h6, p6, d6, k6, o6⟩
    exact o6
  · rintro i d x σ H6 H7 hd ⟨x5, x6, x7, acc, rfl, s6, h6, p6, d6, k6, o6⟩ s7 r
    have hm := List.mem_of_getElem? hd
    have okd := ok.house d hm
    have hdl := okd.len
    have rh := r
    obtain ⟨a, y1, y2, y3, rfl, ha, rfl, rfl, b, vs, rfl, hb, pv⟩ := r
    have hvl : vs.length = d.2.2.length := pr_len pv
    have hsm := sumOf_mem (t := t) hm
    have hbd := sumsH_bd ok hp h0 hsm
    have hmem : (d.1, partsSo d (sumOf c t d.1)) ∈ allParts c t := List.mem_map.mpr ⟨d, hm, rfl⟩
    have hnd : ((allParts c t).map (·.1)).Nodup := by
      unfold allParts
      rw [List.map_map]
      exact ok.hnd
    obtain ⟨y, hy, ry⟩ := kv_find (kv_mono s7.tk k6) hnd hmem
    have ry2 := ry
    obtain ⟨g, ps, rfl, hg, pg⟩ := ry
    have hgl := DGet.k (k := Sum.inr d.1) (s7 _ _ d6)
    rw [hy] at hgl
    refine ⟨_, rfl, _, rfl, a, _, 0, _, rfl, rfl, ha, rfl, p1, _, rfl, hgl, ?_⟩
    generalize hPS : partsSo d (sumOf c t d.1) = PS at *
    have hpl : PS.length = d.2.2.length + 1 := by rw [← hPS]; exact parts_len _ _
    have eps := pr_int pg
    refine ⟨_, rfl, a, _, 2, _, rfl, rfl, ha, rfl, _, rfl, .t, .t, _, _, vs, ps, rfl, ⟨b, rfl, SqT.of hb⟩, ⟨g, rfl, SqT.of hg⟩, fun D hD => ?_⟩
    refine lcS (A := rP rHold rI) (B := rI) (ds := d.2.2.zip PS) src_zip (fun x => inE x.1.1 ex) (fun x => x.2) hD (by rw [List.length_zip]; omega)
      (fun H8 s8 => ⟨okK_mono s8 (k := .t) ⟨b, rfl, vs, hb, pv⟩, okK_mono s8 (k := .t) ⟨g, rfl, ps, hg, pg⟩⟩) (fun i e x H8 hd s8 r => ?_) fun acc8 H8 s8 hD8 pa8 => ?_
    · obtain ⟨T0, x1, x2, rfl, hT, ⟨a1, z1, z2, z3, rfl, g1, rfl, rfl, rfl⟩, rfl⟩ := r
      have hea8 := s8 _ _ (s7 _ _ (s6 _ _ hea))
      refine ⟨T0, _, rfl, hT, rfl, _, _, rfl, _, _, rfl, rfl, rfl, _, rfl, a1, _, 0, _, rfl, rfl, g1, rfl, _, rfl, ea, es, rfl, .inr hea8, rfl, by rw [pr_str pes]; exact flat_strs _, inE e.1.1 ex, by rw [pr_str pes]; rfl, ite2 (fun z => ?_) (fun z => ?_)⟩
      · exact ⟨_, rfl, Same.refl _, z, rfl⟩
      · exact ⟨Same.refl _, by cases q : inE e.1.1 ex with | true => exact absurd q z | false => rfl⟩
    have hg8 := s8 _ _ hg
    have e8 : atI ps (-1) = some (.int (lastI PS)) := by rw [eps]; exact atI_lastI hpl
    have s78 := s7.trans s8
    refine ⟨D, acc8, _, rfl, hD8, pa8, ?_⟩
    refine ⟨_, rfl, 1, rfl, g, ps, -1, _, rfl, rfl, hg8, e8, _, rfl, _, _, rfl, rfl, _, _, rfl, rfl, _, rfl, ite2 (fun z => ?_) (fun z => ?_)⟩
    · refine ⟨_, rfl, .inl ⟨rfl, _, SqL.of (s78 _ _ h6)⟩, _, rfl, a, _, 0, _, rfl, rfl, s8 _ _ ha, rfl, _, rfl, 1, rfl, g, ps, -1, _, rfl, rfl, hg8, e8, _, rfl, le3, fun p9 H9 hp9 s9 h9 => ?_⟩
      have s79 := s78.trans s9
      have h69 := s79 _ _ h6
      have hal : acc.length ≤ 60 := by
        rw [pr_len p6]
        refine Nat.le_trans (List.length_filter_le _ _) ?_
        rw [List.length_map, List.length_take]
        omega
      refine ⟨p2, acc, _, rfl, rfl, h69, line_lt (by omega), ?_⟩
      have tk : Tk H9 (upd H9 p2 (.lst (acc ++ [.ref p9]))) := Tk.upd h69 fun _ z => by cases z
      refine ⟨_, _, _, acc ++ [.ref p9], rfl, (s6.trans s79).mut hnp2, upd_same, ?_, ?_, ?_, ?_⟩
      · rw [take_more hd, List.map_append, List.filter_append]
        refine pr_app (mnL (s79.tk.trans tk) p6) ?_
        have e9 : lostRow c t ex d = (d.1, lastI PS, sparedOf d PS ex) := by unfold lostRow; rw [hPS]
        have e10 : ([d].map (lostRow c t ex)).filter (fun r => decide (0 < r.2.1 + r.2.2)) = [(d.1, lastI PS, sparedOf d PS ex)] := by
          rw [List.map_cons, List.map_nil, e9]
          exact List.filter_cons_of_pos (p := fun r : Str × Int × Int => decide (0 < r.2.1 + r.2.2)) z
        rw [e10]
        exact .cons (Mon.go (A := rT3 rS rI rI) tk ⟨p9, _, _, _, rfl, h9, rfl, rfl, rfl⟩) .nil
      · rw [upd_ne n12]
        exact s79 _ _ d6
      · exact kv_mono (s79.tk.trans tk) k6
      · obtain ⟨zs, hz, pz⟩ := o6
        exact ⟨zs, by rw [upd_ne n32]; exact s79 _ _ hz, mnL (s79.tk.trans tk) pz⟩
    · refine ⟨_, _, _, acc, rfl, s6.trans s78, s78 _ _ h6, ?_, s78 _ _ d6, kv_mono s78.tk k6, okL_mono s78 o6⟩
      rw [take_more hd, List.map_append, List.filter_append]
      have e9 : lostRow c t ex d = (d.1, lastI PS, sparedOf d PS ex) := by unfold lostRow; rw [hPS]
      have e10 : ([d].map (lostRow c t ex)).filter (fun r => decide (0 < r.2.1 + r.2.2)) = [] := by
        rw [List.map_cons, List.map_nil, e9]
        exact List.filter_cons_of_neg (p := fun r : Str × Int × Int => decide (0 < r.2.1 + r.2.2)) z
      rw [e10, List.append_nil]
      exact mnL s78.tk p6
  · rintro σ H6 ⟨x5, x6, x7, acc, rfl, s6, h6, p6, d6, k6, o6⟩
    rw [List.take_length] at p6
    exact ⟨_, rfl, p2, acc, rfl, h6, fun p7 H7 hp7 s7 h7 => q _ _ (s6.trans s7) ⟨p7, acc, rfl, h7, mnL s7.tk p6⟩⟩
abbrev N_with_worth : List Str := ["county", "name", "worth", "found", "parish", "houses", "own", "house"]
theorem sc_with_worth : FnScope N_with_worth ["county", "name", "worth"] (defScope (top 55)) := ⟨rfl, rfl, rfl, by decide +kernel, rfl, by decide +kernel, by decide +kernel⟩
theorem c_with_worth (T : Txt w K mg) : Cl P w K mg base CX0 1 "with_worth" spWithWorth := by
  refine Cl.of T.d_with_worth sc_with_worth (fun _ _ _ _ _ _ us h => by obtain ⟨u0, u1, u2, rfl⟩ := len3 h; rfl) (fun vs H Q E h => by obtain ⟨c, v, n, wo, rfl, rc, ok, q⟩ := h; rfl) fun f cdv A outer s H vs Q E hr h => ?_
  obtain ⟨c, v, n, wo, rfl, rc, ok, q⟩ := h
  refine ⟨_, PSs.nox ((pss_cons (ps_set (i := 3) sc_with_worth.nd rfl (Or.inl rfl) (pe_lstS pa_nil))
  (pss_cons (ps_for PassesOwn.never rfl (pi_tup (pv 0)) (pg_tupS (n := 2) rfl (pgs_cons (pg_name (i := 4) sc_with_worth.nd rfl (Or.inl rfl)) (pgs_cons (pg_name (i := 5) sc_with_worth.nd rfl (Or.inl rfl)) pgs_nil)))
  (pss_cons (ps_setLcS (i := 6) (own := [("house", 7)]) rfl sc_with_worth.nd rfl rfl (sw_true rfl rfl rfl (by decide +kernel)) (pi_tup (pv 5)) (blkOk_by (own := [("house", 7)]) (N := N_with_worth) (sc := defScope (top 55)) (by decide +kernel)) (fun _ _ _ _ _ => (pg_name (i := 7) sc_with_worth.nd rfl (Or.inl rfl))) (fun _ _ _ _ _ => pts_nil) (fun _ _ _ _ _ => (pe_tupS (pa_cons (pe_ix ix_tupS (pv 7) pe_int (fun _ _ => rfl)) (pa_cons (L2.PE.cl (pe_ifExp (pt_cmpR op_eq (pe_ix ix_tupS (pv 7) pe_int (fun _ _ => rfl)) (pv 1) (nomark _)) (pv 2) (pe_ix ix_tupS (pv 7) pe_int (fun _ _ => rfl)))) (pa_cons (pe_ix ix_tupS (pv 7) pe_int (fun _ _ => rfl)) pa_nil))))))
  (pss_one (ps_expr (pe_bm PySem.F.plainAttrs_list PySem.F.slot_list_append PySem.F.type_list_append mt_append (pv 3) (pa_cons (pe_tupS (pa_cons (pv 4) (pa_cons (pe_callTy call_tupleS (by rfl) T.f_tuple boot_tuple (pa_cons (pv 6) pa_nil)) pa_nil))) pa_nil))))))
  (pss_one (ps_ret (pe_callTy call_tupleS (by rfl) T.f_tuple boot_tuple (pa_cons (pv 3) pa_nil))))))), ?_⟩
  obtain ⟨a, us, rfl, ha, pu⟩ := rc
  have hul : us.length = c.length := pr_len pu
  have hc := ok.hi
  refine ⟨le0, fun p H1 hp1 s1 h1 => ?_⟩
  refine ⟨_, rfl, a, rfl, ⟨us, SqT.of (s1 _ _ ha)⟩, ?_⟩
  refine forS (A := rParish) (ds := c) src_tup (Pv := fun i σ H3 => ∃ x4 x5 x6 acc, σ = [some (.ref a), some (.str n), some (.int wo), some (.ref p), x4, x5, x6, none] ∧ Same H H3 ∧ H3 p = some (.lst acc) ∧ Paired (rParish H3) acc (withWorth (c.take i) n wo)) ?_ ?_ ?_ ?_
  · exact ⟨_, _, _, [], rfl, s1, h1, .nil⟩
  · rintro i σ H3 hi ⟨x4, x5, x6, acc, rfl, s3, h3, p3⟩
    exact okT_mono s3.tk ⟨us, ha, pu⟩
  · rintro i d x σ H3 H4 hd ⟨x4, x5, x6, acc, rfl, s3, h3, p3⟩ s4 r
    have okp := ok.all d (List.mem_of_getElem? hd)
    have hdl := okp.hi
    obtain ⟨b, y1, y2, rfl, hb, rfl, b2, vs, rfl, hb2, pv2⟩ := r
    have hvl : vs.length = d.2.length := pr_len pv2
    refine ⟨b, _, rfl, hb, rfl, _, _, rfl, _, _, rfl, rfl, ?_⟩
    refine ⟨_, rfl, b2, rfl, ⟨vs, SqT.of hb2⟩, fun D hD => ?_⟩
    refine lcM (A := rHouse) (B := rHouse) (ds := d.2) src_tup (fun h => (h.1, if h.1 = n then wo else h.2.1, h.2.2)) hD (by omega) (fun H5 s5 => okT_mono s5.tk ⟨vs, hb2, pv2⟩) (fun i e x H5 hd s5 r => ?_) fun acc2 H5 s5 hD5 pa5 => ?_
    · obtain ⟨a1, z1, z2, z3, rfl, g1, rfl, rfl, r3⟩ := r
      refine ⟨rfl, _, rfl, a1, _, 0, _, rfl, rfl, g1, rfl, fun v H6 => H6 = H5 ∧ v = .int (if e.1 = n then wo else e.2.1), ?_, fun v H6 hR => ?_⟩
      · refine ⟨_, rfl, a1, _, 0, _, rfl, rfl, g1, rfl, _, rfl, rfl, _, rfl, ite2 (fun z => ?_) (fun z => ?_)⟩
        · have z : V.str e.1 = V.str n := of_decide_eq_true z
          injection z with z
          exact ⟨_, rfl, rfl, by rw [if_pos z]⟩
        · have z : ¬ e.1 = n := fun y => z (decide_eq_true (by rw [y]))
          exact ⟨_, rfl, a1, _, 1, _, rfl, rfl, g1, rfl, rfl, by rw [if_neg z]⟩
      · obtain ⟨rfl, rfl⟩ := hR
        exact ⟨_, rfl, a1, _, 2, _, rfl, rfl, g1, rfl, le3, fun p8 H8 hp8 s8 h8 => ⟨s8, p8, _, _, _, rfl, h8, rfl, rfl, mn s8 r3⟩⟩
    have s45 := s4.trans s5
    refine ⟨_, rfl, .inl ⟨rfl, _, SqL.of (s45 _ _ h3)⟩, _, rfl, _, rfl, D, acc2, rfl, hD5, fun p6 H6 hp6 s6 h6 => ⟨le2, fun p7 H7 hp7 s7 h7 => ?_⟩⟩
    have s67 := s6.trans s7
    have s47 := s45.trans s67
    have h37 := s47 _ _ h3
    have hal : acc.length ≤ 8 := by
      rw [pr_len p3]
      unfold withWorth
      rw [List.length_map, List.length_take]
      omega
    refine ⟨p, acc, _, rfl, rfl, h37, line_lt (by omega), ?_⟩
    have tk : Tk H7 (upd H7 p (.lst (acc ++ [.ref p7]))) := Tk.upd h37 fun _ z => by cases z
    refine ⟨_, _, _, acc ++ [.ref p7], rfl, (s3.trans s47).mut hp1, upd_same, ?_⟩
    rw [take_more hd]
    have e : withWorth (c.take i ++ [d]) n wo = withWorth (c.take i) n wo ++ [(d.1, d.2.map fun h => (h.1, if h.1 = n then wo else h.2.1, h.2.2))] := by simp [withWorth]
    rw [e]
    exact pr_snoc (mnL (s47.tk.trans tk) p3) (Mon.go (A := rParish) tk ⟨p7, _, _, rfl, h7, rfl, p6, acc2, rfl, s7 _ _ h6, mnL s67.tk pa5⟩)
  · rintro σ H3 ⟨x4, x5, x6, acc, rfl, s3, h3, p3⟩
    rw [List.take_length] at p3
    exact ⟨_, rfl, p, acc, rfl, h3, fun p4 H4 hp4 s4 h4 => q _ _ (s3.trans s4) ⟨p4, acc, rfl, h4, mnL s4.tk p3⟩⟩
abbrev N_changed : List Str := ["olds", "news", "rows", "one", "other", "row"]
theorem sc_changed : FnScope N_changed ["olds", "news"] (defScope (top 57)) := ⟨rfl, rfl, rfl, by decide +kernel, rfl, by decide +kernel, by decide +kernel⟩
theorem c_changed (T : Txt w K mg) : Cl P w K mg base CX0 1 "changed" spChanged := by
  refine Cl.of T.d_changed sc_changed (fun _ _ _ _ _ _ us h => by obtain ⟨u0, u1, rfl⟩ := len2 h; rfl) (fun vs H Q E h => by obtain ⟨p1, p2, xs, ys, as, bs, rfl, h1, h2, pa, pb, hl, q⟩ := h; rfl) fun f cdv A outer s H vs Q E hr h => ?_
  obtain ⟨p1, p2, xs, ys, as, bs, rfl, h1, h2, pa, pb, hl, q⟩ := h
  refine ⟨_, PSs.nox ((pss_cons (ps_setLcS (i := 2) (own := [("one", 3), ("other", 4)]) rfl sc_changed.nd rfl rfl (sw_true rfl rfl rfl (by decide +kernel)) (pi_zipX (by rfl) T.f_zip (pa_cons (pv 0) (pa_cons (pv 1) pa_nil))) (blkOk_by (own := [("one", 3), ("other", 4)]) (N := N_changed) (sc := defScope (top 57)) (by decide +kernel)) (fun _ _ _ _ _ => (pg_tupS (n := 2) rfl (pgs_cons (pg_name (i := 3) sc_changed.nd rfl (Or.inl rfl)) (pgs_cons (pg_name (i := 4) sc_changed.nd rfl (Or.inl rfl)) pgs_nil)))) (fun _ _ _ _ _ => pts_nil) (fun _ _ _ _ _ => (pe_tupS (pa_cons (pe_ix ix_tupS (pv 3) pe_int (fun _ _ => rfl)) (pa_cons (pe_ix ix_tupS (pv 3) pe_int (fun _ _ => rfl)) (pa_cons (pe_ix ix_tupS (pv 4) pe_int (fun _ _ => rfl)) pa_nil))))))
  (pss_one (ps_ret (pe_callTy call_tupleS (by rfl) T.f_tuple boot_tuple (pa_cons (pe_lcS (own := [("row", 5)]) (by rfl) sc_changed.nd (pi_list (pv 2)) (blkOk_by (own := [("row", 5)]) (N := N_changed) (sc := defScope (top 57)) (by decide +kernel)) (fun _ _ _ _ _ => (pg_name (i := 5) sc_changed.nd rfl (Or.inl rfl))) (fun _ _ _ _ _ => (pts_one (pt_cmpR op_ne (pe_ix ix_tupS (pv 5) pe_int (fun _ _ => rfl)) (pe_ix ix_tupS (pv 5) pe_int (fun _ _ => rfl)) (nomark _)))) (fun _ _ _ _ _ => (pv 5))) pa_nil)))))), ?_⟩
  refine ⟨_, rfl, _, rfl, .l, .l, _, _, xs, ys, rfl, ⟨p1, rfl, SqL.of h1⟩, ⟨p2, rfl, SqL.of h2⟩, fun D hD => ?_⟩
  refine lcM (A := rP (rP rS rI) (rP rS rI)) (B := rT3 rS rI rI) (ds := as.zip bs) src_zip (fun x => (x.1.1, x.1.2, x.2.2)) hD (by rw [List.length_zip]; omega)
    (fun H4 s4 => ⟨okK_mono s4 (k := .l) ⟨p1, rfl, xs, h1, pa⟩, okK_mono s4 (k := .l) ⟨p2, rfl, ys, h2, pb⟩⟩) (fun i d x H4 hd s4 r => ?_) fun acc H4 s4 hD4 pa4 => ?_
  · obtain ⟨T0, x1, x2, rfl, hT, ⟨a1, y1, y2, rfl, g1, rfl, rfl⟩, ⟨a2, w1, w2, rfl, g2, rfl, rfl⟩⟩ := r
    exact ⟨T0, _, rfl, hT, rfl, _, _, rfl, _, _, rfl, rfl, rfl, _, rfl, a1, _, 0, _, rfl, rfl, g1, rfl, _, rfl, a1, _, 1, _, rfl, rfl, g1, rfl, _, rfl, a2, _, 1, _, rfl, rfl, g2, rfl, le3,
      fun p8 H8 hp8 s8 h8 => ⟨s8, p8, _, _, _, rfl, h8, rfl, rfl, rfl⟩⟩
  refine ⟨_, rfl, D, rfl, ⟨acc, SqL.of hD4⟩, fun D2 hD2 => ?_⟩
  refine lcS (A := rT3 rS rI rI) (B := rT3 rS rI rI) (ds := (as.zip bs).map fun x => (x.1.1, x.1.2, x.2.2)) src_list (fun r => decide (r.2.1 ≠ r.2.2)) (fun r => r) hD2 (by rw [List.length_map, List.length_zip]; omega)
    (fun H5 s5 => okL_mono s5 ⟨acc, hD4, pa4⟩) (fun i d x H5 hd s5 r => ?_) fun acc5 H5 s5 hD5 pa5 => ?_
  · have rr := r
    obtain ⟨a1, z1, z2, z3, rfl, g1, rfl, rfl, rfl⟩ := r
    refine ⟨rfl, _, rfl, a1, _, 1, _, rfl, rfl, g1, rfl, _, rfl, a1, _, 2, _, rfl, rfl, g1, rfl, rfl, decide (d.2.1 ≠ d.2.2), ?_, ite2 (fun z => ?_) (fun z => ?_)⟩
    · rw [dec_int]
      by_cases e : d.2.1 = d.2.2
      · rw [beq_iff_eq.mpr e, decide_eq_false (fun z => z e)]; rfl
      · rw [beq_false_of_ne e, decide_eq_true e]; rfl
    · exact ⟨_, rfl, Same.refl _, z, rr⟩
    · exact ⟨Same.refl _, by cases q : decide (d.2.1 ≠ d.2.2) with | true => exact absurd q z | false => rfl⟩
  · rw [List.map_id'] at pa5
    exact ⟨D2, acc5, rfl, hD5, fun p6 H6 hp6 s6 h6 => q _ _ (s4.trans (s5.trans s6)) ⟨p6, acc5, rfl, h6, mnL s6.tk pa5⟩⟩
abbrev N_won_so : List Str := ["county", "appeal", "names", "parish", "houses", "found", "house"]
theorem sc_won_so : FnScope N_won_so ["county", "appeal"] (defScope (top 56)) := ⟨rfl, rfl, rfl, by decide +kernel, rfl, by decide +kernel, by decide +kernel⟩
theorem c_won_so (T : Txt w K mg) : Cl P w K mg base (L2.CX P w) 6 "won_so" (spWonSo T.eBadAppeal) := by
  refine Cl.of T.d_won_so sc_won_so (fun _ _ _ _ _ _ us h => by obtain ⟨u0, u1, rfl⟩ := len2 h; rfl) (fun vs H Q E h => by obtain ⟨c, v, u, n, wo, a, rfl, rc, ok, rfl, ha, nn, h0, h1, q, qe⟩ := h; rfl) fun f cdv A outer s H vs Q E hr h => ?_
  obtain ⟨c, v, u, n, wo, a, rfl, rc, ok, rfl, ha, nn, h0, h1, q, qe⟩ := h
  refine ⟨_, (pss_cons (ps_if (PW.pt (pw_or (pt_not (pt_val (pe_callB isi_tup (by rfl) T.f_isinstance boot_isinstance (pa_cons (pv 1) (pa_cons (pe_bltn (v := .ty "tuple") (by rfl) T.f_tuple boot_tuple rfl) pa_nil))))) (pw_or (pt_cmpR op_ne (pe_callB call_lenS (by rfl) T.f_len boot_len (pa_cons (pv 1) pa_nil)) pe_int (nomark _)) (pw_or1 (pt_not (pt_val (pc (c_is_name T) (hr.mono (by decide)) pass0 (pa_cons (pe_ix ix_tupS (pv 1) pe_int (fun _ _ => rfl)) pa_nil)))))))) (pss_one (ps_raise rfl (takes_of rfl rfl rfl rfl) (pmk_own PySem.F.excBase_ValueError T.x_BadAppeal T.g_BadAppeal T.kp_BadAppeal (raises_own T.b_BadAppeal T.t_BadAppeal) rfl))) pss_nil)
  (pss_cons (ps_set (i := 2) sc_won_so.nd rfl (Or.inl rfl) (pe_lstS pa_nil))
  (pss_cons (ps_for (passes_of rfl) rfl (pi_tup (pv 0)) (pg_tupS (n := 2) rfl (pgs_cons (pg_name (i := 3) sc_won_so.nd rfl (Or.inl rfl)) (pgs_cons (pg_name (i := 4) sc_won_so.nd rfl (Or.inl rfl)) pgs_nil)))
  (pss_one (ps_expr (pe_bm PySem.F.plainAttrs_list PySem.F.slot_list_extend PySem.F.type_list_extend mt_extend (pv 2) (pa_cons (pe_lcS (own := [("house", 6)]) (by rfl) sc_won_so.nd (pi_tup (pv 4)) (blkOk_by (own := [("house", 6)]) (N := N_won_so) (sc := defScope (top 56)) (by decide +kernel)) (fun _ _ _ _ _ => (pg_name (i := 6) sc_won_so.nd rfl (Or.inl rfl))) (fun _ _ _ _ _ => pts_nil) (fun _ _ _ _ _ => (pe_ix ix_tupS (pv 6) pe_int (fun _ _ => rfl)))) pa_nil)))))
  (pss_cons (ps_if (PW.pt (pw_or (pt_not (pt_val (pc (c_is_whole T) (hr.mono (by decide)) pass0 (pa_cons (pe_ix ix_tupS (pv 1) pe_int (fun _ _ => rfl)) (pa_cons pe_int (pa_cons (C8.pe_gc rfl T.c_MOST_WORTH) pa_nil)))))) (pw_or1 (pt_cmpR op_notInS (pe_ix ix_tupS (pv 1) pe_int (fun _ _ => rfl)) (pv 2) rfl)))) (pss_one (ps_raise rfl (takes_of rfl rfl rfl rfl) (pmk_own PySem.F.excBase_ValueError T.x_BadAppeal T.g_BadAppeal T.kp_BadAppeal (raises_own T.b_BadAppeal T.t_BadAppeal) rfl))) pss_nil)
  (pss_cons (ps_set (i := 5) sc_won_so.nd rfl (Or.inl rfl) (pc (c_with_worth T) (hr.mono (by decide)) pass0 (pa_cons (pv 0) (pa_cons (pe_ix ix_tupS (pv 1) pe_int (fun _ _ => rfl)) (pa_cons (pe_ix ix_tupS (pv 1) pe_int (fun _ _ => rfl)) pa_nil)))))
  (pss_cons (ps_if (pt_not (pt_val (pc (c_is_county T) (hr.mono (by decide)) pass0 (pa_cons (pv 5) pa_nil)))) (pss_one (ps_raise rfl (takes_of rfl rfl rfl rfl) (pmk_own PySem.F.excBase_ValueError T.x_BadAppeal T.g_BadAppeal T.kp_BadAppeal (raises_own T.b_BadAppeal T.t_BadAppeal) rfl))) pss_nil)
  (pss_one (ps_ret (pv 5))))))))), ?_⟩
  have hc := ok.hi
  have hl := ok.len
  refine ⟨_, rfl, a, _, rfl, ha, true, rfl, iteF ?_⟩
  refine ⟨_, rfl, a, _, rfl, .inr ha, rfl, false, rfl, iteF ?_⟩
  refine ⟨_, rfl, a, _, 0, _, rfl, rfl, ha, rfl, n, rfl, nn, fun H1 s1 => ⟨true, rfl, iteF ?_⟩⟩
  refine ⟨le0, fun p H2 hp2 s2 h2 => ?_⟩
  have s12 := s1.trans s2
  have rc0 := rc
  obtain ⟨b, us, rfl, hb, pu⟩ := rc
  refine ⟨_, rfl, b, rfl, ⟨us, SqT.of (s12 _ _ hb)⟩, ?_⟩
  have hp0 := none_back s1 hp2
  refine forS (A := rParish) (ds := c) src_tup (Pv := fun i σ H3 => ∃ x3 x4 acc, σ = [some (.ref b), some (.ref a), some (.ref p), x3, x4, none, none] ∧ Same H H3 ∧ H3 p = some (.lst acc) ∧ Paired (rS H3) acc ((allHouses (c.take i)).map (·.1))) ?_ ?_ ?_ ?_
  · exact ⟨_, _, [], rfl, s12, h2, .nil⟩
  · rintro i σ H3 hi ⟨x3, x4, acc, rfl, s3, h3, p3⟩
    exact okT_mono s3.tk ⟨us, hb, pu⟩
  · rintro i d x σ H3 H4 hd ⟨x3, x4, acc, rfl, s3, h3, p3⟩ s4 r
    have hdl := (ok.all d (List.mem_of_getElem? hd)).hi
    obtain ⟨e, y1, y2, rfl, he, rfl, b2, vs, rfl, hb2, pv2⟩ := r
    have hvl : vs.length = d.2.length := pr_len pv2
    refine ⟨e, _, rfl, he, rfl, _, _, rfl, _, _, rfl, rfl, ?_⟩
    refine ⟨_, rfl, .inl ⟨rfl, _, SqL.of (s4 _ _ h3)⟩, _, rfl, b2, rfl, ⟨vs, SqT.of hb2⟩, fun D hD => ?_⟩
    refine lcM (A := rHouse) (B := rS) (ds := d.2) src_tup (fun h => h.1) hD (by omega) (fun H5 s5 => okT_mono s5.tk ⟨vs, hb2, pv2⟩) (fun i e x H5 hd s5 r => ?_) fun acc2 H5 s5 hD5 pa5 => ?_
    · obtain ⟨a1, z1, z2, z3, rfl, g1, rfl, rfl, r3⟩ := r
      exact ⟨rfl, _, rfl, a1, _, 0, _, rfl, rfl, g1, rfl, Same.refl _, rfl⟩
    have s45 := s4.trans s5
    have h35 := s45 _ _ h3
    have hsz : acc.length + acc2.length ≤ 60 := by
      have z := allHouses_le c (i + 1)
      rw [allHouses_snoc hd, List.length_append] at z
      rw [pr_len p3, pr_len pa5, List.length_map, List.length_map]
      omega
    refine ⟨p, D, acc, acc2, rfl, rfl, h35, hD5, line_of (by omega), ?_⟩
    have tk : Tk H5 (upd H5 p (.lst (acc ++ acc2))) := Tk.upd h35 fun _ z => by cases z
    refine ⟨_, _, acc ++ acc2, rfl, (s3.trans s45).mut hp0, upd_same, ?_⟩
    rw [allHouses_snoc hd, List.map_append]
    exact pr_app (mnL (s45.tk.trans tk) p3) (mnL tk pa5)
  rintro σ H3 ⟨x3, x4, acc, rfl, s3, h3, p3⟩
  rw [List.take_length] at p3
  have ha3 := s3 _ _ ha
  have ep := pr_str p3
  refine ⟨_, rfl, a, _, 1, _, rfl, rfl, ha3, rfl, wo, 0, 9999, rfl, true, dT ⟨h0, h1⟩, iteF ?_⟩
  refine ⟨_, rfl, a, _, 0, _, rfl, rfl, ha3, rfl, _, rfl, p, acc, rfl, .inl h3, rfl, by rw [ep]; exact flat_strs _, _, rfl, ite2 (fun z => ?_) (fun z => ?_)⟩
  · refine qe _ s3 fun y => ?_
    have z : (!inV (.str n) acc) = true := z
    rw [ep, inV_strs, decide_eq_true y.1] at z
    cases z
  · have hin : n ∈ (allHouses c).map (·.1) := by
      have z : ¬ (!inV (.str n) acc) = true := z
      rw [ep, inV_strs] at z
      exact Decidable.byContradiction fun y => z (by rw [decide_eq_false y]; rfl)
    refine ⟨_, rfl, _, rfl, a, _, 0, _, rfl, rfl, ha3, rfl, _, rfl, a, _, 1, _, rfl, rfl, ha3, rfl, c, _, n, wo, rfl, mn s3 rc0, ok, fun v4 H4 s4 r4 => ?_⟩
    refine ⟨_, rfl, v4, _, rfl, r4, withWorth_ok ok h0 h1, fun H5 s5 => ⟨posC (withWorth c n wo), rfl, ?_⟩⟩
    cases hpos : posC (withWorth c n wo) with
    | true =>
      refine iteF ⟨_, rfl, q _ _ (s3.trans (s4.trans s5)) (mn s5 r4) hin hpos⟩
    | false =>
      refine iteT (qe _ (s3.trans (s4.trans s5)) fun y => ?_)
      rw [hpos] at y
      cases y.2
end
end K5
set_option maxHeartbeats 4000000
namespace K5
open PySem PySem.Spec PyProof.Rows L2
open K5M (shareOut)
abbrev Rec := Str × Int × Int × Str × Int
abbrev rPRow : Rel (Str × Row) := rP rS rRow
abbrev rRec : Rel Rec := rT5 rS rI rI rS rI
structure Bk where
  year : Int
  day : Int
  total : Int
  halves : Int
  toC : Int
  county : County
  excused : List Str
  shut : List (Str × Row)
  coming : List Rec
def bkF (S : Bk) (vc ve vs vk : V) (d : Addr) : List (Str × V) :=
  [("on_year", .int S.year), ("on_day", .int S.day), ("of_county", vc), ("of_total", .int S.total), ("of_excused", ve), ("halves", .int S.halves), ("shut", vs), ("by_parish", .ref d), ("coming", vk), ("to_county", .int S.toC)]
/-- the books at b with the terms' dict at d -/
def IsBk (CB : Addr) (H : Hp) (b d : Addr) (S : Bk) : Prop := ∃ dx vc ve vs vk, H b = some (.ins CB dx (bkF S vc ve vs vk d)) ∧ rCounty H vc S.county ∧ rTL rS H ve S.excused ∧ rTL rPRow H vs S.shut ∧ rTL rRec H vk S.coming
theorem IsBk.mono {CB : Addr} {H H' : Hp} {b d : Addr} {S : Bk} (s : Same H H') (h : IsBk CB H b d S) : IsBk CB H' b d S := by
  obtain ⟨dx, vc, ve, vs, vk, h1, h2, h3, h4, h5⟩ := h
  exact ⟨dx, vc, ve, vs, vk, s _ _ h1, mn s h2, mn s h3, mn s h4, mn s h5⟩
structure BkOk (ppl : List Str) (S : Bk) : Prop where
  co : CountyOk S.county
  pos : posC S.county = true
  t0 : 0 ≤ S.total
  t1 : S.total ≤ 1000000000
  ex : ExcOk S.excused
  hold : ∀ h ∈ allHouses S.county, ∀ x ∈ h.2.2, x.1 ∈ ppl
  v0 : 0 ≤ S.halves
  v1 : S.halves ≤ 2
  y0 : 1 ≤ S.year
  y1 : S.year ≤ 20
  d0 : 1 ≤ S.day
  d1 : S.day ≤ 360
  old : ∀ r ∈ S.shut, r.2.1 < S.year ∧ r.1 ∈ ppl
  slen : (S.shut.length : Int) ≤ 1440 * (S.year - 1)
  come : ∀ r ∈ S.coming, r.2.2.2.1 ∈ ppl
  clen : S.coming.length ≤ 1000
def half (k : Int) (x : Int) : Int := if k = 1 then x - x / 2 else x / 2
def rowsOf (c : County) (t : Int) (ex : List Str) (y k : Int) (h : House) : List (Str × Row) :=
  ((h.2.2.zip (partsSo h (sumOf c t h.1))).filter fun x => decide (0 < half k x.2) && !inE x.1.1 ex).map fun x => (x.1.1, (y, k, h.1, x.1.2.1, half k x.2))
def rowsHalf (c : County) (t : Int) (ex : List Str) (y k : Int) : List (Str × Row) := ((allHouses c).map (rowsOf c t ex y k)).flatten
def Bk.rows (S : Bk) (k : Int) : List (Str × Row) := rowsHalf S.county S.total S.excused S.year k
def Bk.all (S : Bk) : List (Str × Row) := S.shut ++ ((List.range S.halves.toNat).map fun i : Nat => S.rows ((i : Int) + 1)).flatten
theorem rowsOf_len {c : County} {t : Int} {ex : List Str} {y k : Int} {h : House} (ok : HouseOk h) : (rowsOf c t ex y k h).length ≤ 12 := by
  unfold rowsOf
  rw [List.length_map]
  refine Nat.le_trans (List.length_filter_le _ _) ?_
  rw [List.length_zip]
  exact Nat.le_trans (Nat.min_le_left _ _) ok.len
theorem flat_len {α β : Type} {f : α → List β} {n : Nat} : ∀ {l : List α}, (∀ x ∈ l, (f x).length ≤ n) → ((l.map f).flatten).length ≤ l.length * n
  | [], _ => by simp
  | a :: l, h => by
    rw [List.map_cons, List.flatten_cons, List.length_append, List.length_cons, Nat.succ_mul]
    have := h a List.mem_cons_self
    have := flat_len (l := l) (n := n) fun x hx => h x (List.mem_cons_of_mem _ hx)
    omega
theorem rowsHalf_len {c : County} {t : Int} {ex : List Str} {y k : Int} (ok : CountyOk c) : (rowsHalf c t ex y k).length ≤ 720 := by
  have := flat_len (f := rowsOf c t ex y k) (n := 12) (l := allHouses c) fun h hh => rowsOf_len (ok.house h hh)
  have hl := ok.len
  unfold rowsHalf
  omega
theorem BkOk.rlen {ppl : List Str} {S : Bk} (ok : BkOk ppl S) (k : Int) : (S.rows k).length ≤ 720 := rowsHalf_len ok.co
def spTermInit (CT : Addr) : Sp := fun vs H Q _ => ∃ x dx z d c wt, vs = [.ref x, .str z, .ref d, .int c, .int wt] ∧ H x = some (.ins CT dx []) ∧
  Q .non (upd H x (.ins CT dx [("collector", .str z), ("told", .ref d), ("came", .int c), ("went", .int wt)]))
def bk0 (c : County) (t : Int) (ex : List Str) : Bk := ⟨1, 1, t, 0, 0, c, ex, [], []⟩
def spBooksInit (CB : Addr) : Sp := fun vs H Q _ => ∃ x dx vc ve t c ex, vs = [.ref x, vc, .int t, ve] ∧ H x = some (.ins CB dx []) ∧ rCounty H vc c ∧ rTL rS H ve ex ∧
  ∀ d H', (∀ a u, a ≠ x → H a = some u → H' a = some u) → H d = none → H' d = some (.dK []) → IsBk CB H' x d (bk0 c t ex) → Q .non H'
section
variable {P : Program} {w : World} {K : PySem.W.Frag} {mg : Str → Option Value} {base : Heap}
abbrev N_Term_init : List Str := ["self", "collector", "told", "came", "went"]
theorem sc_Term_init : FnScope N_Term_init ["self", "collector", "told", "came", "went"] (defScope (inClass (top 60) 0)) := ⟨rfl, rfl, rfl, by decide +kernel, rfl, by decide +kernel, by decide +kernel⟩
theorem c_Term_init (T : Txt w K mg) : Mr P w K mg base CX0 1 T.cTerm "Term" (spTermInit T.cTerm) := by
  refine Mr.of T.d_Term_init sc_Term_init (fun _ _ _ _ _ _ us h => by obtain ⟨u0, u1, u2, u3, u4, rfl⟩ := len5 h; rfl) (fun vs H Q E h => by obtain ⟨x, dx, z, d, c, wt, rfl, hx, q⟩ := h; rfl) fun f cdv A outer s H vs Q E hr h => ?_
  obtain ⟨x, dx, z, d, c, wt, rfl, hx, q⟩ := h
  refine ⟨_, PSs.nox ((pss_cons (ps_fldS T.cl_Term T.n_Term_collector (pv 0) (pv 1) rfl)
  (pss_cons (ps_fldS T.cl_Term T.n_Term_told (pv 0) (pv 2) rfl)
  (pss_cons (ps_fldS T.cl_Term T.n_Term_came (pv 0) (pv 3) rfl)
  (pss_one (ps_fldS T.cl_Term T.n_Term_went (pv 0) (pv 4) rfl)))))), ?_⟩
  refine ⟨_, rfl, _, rfl, x, dx, [], rfl, hx, by simp, ?_⟩
  refine ⟨_, rfl, _, rfl, x, dx, [("collector", .str z)], rfl, upd_same, by simp, ?_⟩
  refine ⟨_, rfl, _, rfl, x, dx, [("collector", .str z), ("told", .ref d)], rfl, upd_same, by simp, ?_⟩
  refine ⟨_, rfl, _, rfl, x, dx, [("collector", .str z), ("told", .ref d), ("came", .int c)], rfl, upd_same, by simp, ?_⟩
  rw [upd_upd, upd_upd, upd_upd]
  exact q
abbrev N_Books_init : List Str := ["self", "of_county", "of_total", "of_excused"]
theorem sc_Books_init : FnScope N_Books_init ["self", "of_county", "of_total", "of_excused"] (defScope (inClass (top 61) 0)) := ⟨rfl, rfl, rfl, by decide +kernel, rfl, by decide +kernel, by decide +kernel⟩
theorem c_Books_init (T : Txt w K mg) : Mr P w K mg base CX0 1 T.cBooks "Books" (spBooksInit T.cBooks) := by
  refine Mr.of T.d_Books_init sc_Books_init (fun _ _ _ _ _ _ us h => by obtain ⟨u0, u1, u2, u3, rfl⟩ := len4 h; rfl) (fun vs H Q E h => by obtain ⟨x, dx, vc, ve, t, c, ex, rfl, hx, rc, re, q⟩ := h; rfl) fun f cdv A outer s H vs Q E hr h => ?_
  obtain ⟨x, dx, vc, ve, t, c, ex, rfl, hx, rc, re, q⟩ := h
  refine ⟨_, PSs.nox ((pss_cons (ps_fldS T.cl_Books T.n_Books_on_year (pv 0) pe_int rfl)
  (pss_cons (ps_fldS T.cl_Books T.n_Books_on_day (pv 0) pe_int rfl)
  (pss_cons (ps_fldS T.cl_Books T.n_Books_of_county (pv 0) (pv 1) rfl)
  (pss_cons (ps_fldS T.cl_Books T.n_Books_of_total (pv 0) (pv 2) rfl)
  (pss_cons (ps_fldS T.cl_Books T.n_Books_of_excused (pv 0) (pv 3) rfl)
  (pss_cons (ps_fldS T.cl_Books T.n_Books_halves (pv 0) pe_int rfl)
  (pss_cons (ps_fldS T.cl_Books T.n_Books_shut (pv 0) (pe_tupS pa_nil) rfl)
  (pss_cons (ps_fldS T.cl_Books T.n_Books_by_parish (pv 0) pe_dnewK rfl)
  (pss_cons (ps_fldS T.cl_Books T.n_Books_coming (pv 0) (pe_tupS pa_nil) rfl)
  (pss_one (ps_fldS T.cl_Books T.n_Books_to_county (pv 0) pe_int rfl)))))))))))), ?_⟩
  refine ⟨_, rfl, x, dx, [], rfl, hx, by simp, ?_⟩
  refine ⟨_, rfl, x, dx, [("on_year", .int 1)], rfl, upd_same, by simp, ?_⟩
  refine ⟨_, rfl, _, rfl, x, dx, [("on_year", .int 1), ("on_day", .int 1)], rfl, upd_same, by simp, ?_⟩
  refine ⟨_, rfl, _, rfl, x, dx, [("on_year", .int 1), ("on_day", .int 1), ("of_county", vc)], rfl, upd_same, by simp, ?_⟩
  refine ⟨_, rfl, _, rfl, x, dx, [("on_year", .int 1), ("on_day", .int 1), ("of_county", vc), ("of_total", .int t)], rfl, upd_same, by simp, ?_⟩
  refine ⟨_, rfl, x, dx, [("on_year", .int 1), ("on_day", .int 1), ("of_county", vc), ("of_total", .int t), ("of_excused", ve)], rfl, upd_same, by simp, ?_⟩
  rw [upd_upd, upd_upd, upd_upd, upd_upd, upd_upd]
  refine ⟨le0, fun p1 H1 hp1 s1 h1 => ⟨_, rfl, x, dx, [("on_year", .int 1), ("on_day", .int 1), ("of_county", vc), ("of_total", .int t), ("of_excused", ve), ("halves", .int 0)], rfl, s1 _ _ upd_same, by simp, ?_⟩⟩
  have nx1 : p1 ≠ x := (ne_of_none upd_same hp1).symm
  refine fun d hd => ⟨_, rfl, x, dx, [("on_year", .int 1), ("on_day", .int 1), ("of_county", vc), ("of_total", .int t), ("of_excused", ve), ("halves", .int 0), ("shut", .ref p1)], rfl, ?_, by simp, ?_⟩
  · rw [upd_ne (ne_of_none upd_same hd)]
    exact upd_same
  have nxd : x ≠ d := ne_of_none upd_same hd
  have n1d : p1 ≠ d := ne_of_none (o := .tup []) (by rw [upd_ne nx1]; exact h1) hd
  refine ⟨le0, fun p2 H2 hp2 s2 h2 => ⟨_, rfl, x, dx, [("on_year", .int 1), ("on_day", .int 1), ("of_county", vc), ("of_total", .int t), ("of_excused", ve), ("halves", .int 0), ("shut", .ref p1), ("by_parish", .ref d)], rfl, s2 _ _ upd_same, by simp, ?_⟩⟩
  have nx2 : p2 ≠ x := (ne_of_none upd_same hp2).symm
  refine ⟨_, rfl, x, dx, [("on_year", .int 1), ("on_day", .int 1), ("of_county", vc), ("of_total", .int t), ("of_excused", ve), ("halves", .int 0), ("shut", .ref p1), ("by_parish", .ref d), ("coming", .ref p2)], rfl, upd_same, by simp, ?_⟩
  rw [upd_upd]
  have hdH1 : H1 d = none := by rw [upd_ne (Ne.symm nxd)] at hd; exact hd
  have hdH : H d = none := by
    have := none_back s1 hdH1
    rw [upd_ne (Ne.symm nxd)] at this
    exact this
  have keep : ∀ a u, a ≠ x → H a = some u → H2 a = some u := fun a u na hu => by
    refine s2 _ _ ?_
    rw [upd_ne na]
    have nad : a ≠ d := ne_of_none hu hdH
    rw [upd_ne nad, upd_ne na]
    refine s1 _ _ ?_
    rw [upd_ne na]
    exact hu
  have tk : Tk H H2 := fun a xs h => keep a _ (fun e => by rw [e, hx] at h; cases h) h
  have hx2 := s2 _ _ (upd_same (H := upd (upd H1 x _) d (.dK [])) (a := x))
  have tk2 : ∀ o, Tk H2 (upd H2 x (.ins T.cBooks dx o)) := fun o => Tk.upd hx2 fun _ z => by cases z
  have g1 : H2 p1 = some (.tup []) := s2 _ _ (by rw [upd_ne nx1, upd_ne n1d, upd_ne nx1]; exact h1)
  have gd : H2 d = some (.dK []) := s2 _ _ (by rw [upd_ne (Ne.symm nxd)]; exact upd_same)
  refine q d _ (fun a u na hu => by rw [upd_ne na]; exact keep a u na hu) hdH (by rw [upd_ne (Ne.symm nxd)]; exact gd) ⟨dx, vc, ve, .ref p1, .ref p2, upd_same, Mon.go ((tk.trans (tk2 _))) rc, Mon.go (tk.trans (tk2 _)) re, ⟨p1, [], rfl, by rw [upd_ne nx1]; exact g1, .nil⟩, ⟨p2, [], rfl, by rw [upd_ne nx2]; exact h2, .nil⟩⟩
end
end K5
set_option maxHeartbeats 4000000
namespace K5
open PySem PySem.Spec PyProof.Rows L2
open K5M (shareOut)
def IsTerm (CT : Addr) (H : Hp) (d : Addr) (n : Nat) (t : V) : Prop := ∃ a dx z e came went kvs, t = .ref a ∧ H a = some (.ins CT dx [("collector", .str z), ("told", .ref e), ("came", .int came), ("went", .int went)]) ∧ e ≠ d ∧ H e = some (.dK kvs) ∧ kvs.length ≤ n ∧
  ∀ kv ∈ kvs, ∃ x : Str × Int, rP rS rI H kv.2 x ∧ PyData.strOk x.1 = true
def IsTerms (CT : Addr) (H : Hp) (d : Addr) (n : Nat) : Prop := ∃ kvs, H d = some (.dK kvs) ∧ kvs.length ≤ n ∧ ∀ kv ∈ kvs, ∃ a ts, kv.2 = .ref a ∧ H a = some (.tup ts) ∧ ts.length ≤ min 20 n ∧ ∀ t ∈ ts, IsTerm CT H d n t
theorem IsTerm.mono {CT : Addr} {H H' : Hp} {d : Addr} {n : Nat} {t : V} (s : Same H H') (h : IsTerm CT H d n t) : IsTerm CT H' d n t := by
  obtain ⟨a, dx, z, e, c, wt, kvs, h1, h2, h3, h4, h5, h6⟩ := h
  exact ⟨a, dx, z, e, c, wt, kvs, h1, s _ _ h2, h3, s _ _ h4, h5, fun kv hk => let ⟨x, hx, ho⟩ := h6 kv hk; ⟨x, mn s hx, ho⟩⟩
theorem IsTerms.mono {CT : Addr} {H H' : Hp} {d : Addr} {n : Nat} (s : Same H H') (h : IsTerms CT H d n) : IsTerms CT H' d n := by
  obtain ⟨kvs, h1, h2, h3⟩ := h
  exact ⟨kvs, s _ _ h1, h2, fun kv hk => let ⟨a, ts, e, h4, h5, h6⟩ := h3 kv hk; ⟨a, ts, e, s _ _ h4, h5, fun t ht => (h6 t ht).mono s⟩⟩
theorem IsTerm.mv {CT : Addr} {H : Hp} {d d2 : Addr} {n : Nat} {t : V} (hd : H d2 = none) (h : IsTerm CT H d n t) : IsTerm CT H d2 n t := by
  obtain ⟨a, dx, z, e, c, wt, kvs, h1, h2, h3, h4, h5, h6⟩ := h
  exact ⟨a, dx, z, e, c, wt, kvs, h1, h2, ne_of_none h4 hd, h4, h5, h6⟩
theorem bk_few {S : Bk} {vc ve vs vk : V} {d : Addr} : (bkF S vc ve vs vk d).length < 1000 := by show 10 < 1000; decide
def spOther (CB CT : Addr) : Sp := fun vs H Q _ => ∃ b d S n, vs = [.ref b] ∧ IsBk CB H b d S ∧ IsTerms CT H d n ∧
  ∀ b2 d2 H', Same H H' → H b2 = none → H d2 = none → b2 ≠ d2 → IsBk CB H' b2 d2 S → IsTerms CT H' d2 n → Q (.ref b2) H'
def spRows (CB : Addr) : Sp := fun vs H Q _ => ∃ b d S ppl k, vs = [.ref b, .int k] ∧ IsBk CB H b d S ∧ BkOk ppl S ∧ ∀ p us H', Same H H' → H p = none → H' p = some (.lst us) → Paired (rPRow H') us (S.rows k) → Q (.ref p) H'
def spAll (CB : Addr) : Sp := fun vs H Q _ => ∃ b d S ppl, vs = [.ref b] ∧ IsBk CB H b d S ∧ BkOk ppl S ∧ ∀ p us H', Same H H' → H p = none → H' p = some (.lst us) → Paired (rPRow H') us S.all → Q (.ref p) H'
section
variable {P : Program} {w : World} {K : PySem.W.Frag} {mg : Str → Option Value} {base : Heap}
abbrev N_Books_other : List Str := ["self", "found"]
theorem sc_Books_other : FnScope N_Books_other ["self"] (defScope (inClass (top 61) 1)) := ⟨rfl, rfl, rfl, by decide +kernel, rfl, by decide +kernel, by decide +kernel⟩
theorem c_Books_other (T : Txt w K mg) : Mt P w K mg base CX0 3 T.cBooks "other" (spOther T.cBooks T.cTerm) := by
  refine Mt.of T.d_Books_other sc_Books_other (fun _ _ _ _ _ _ us h => by obtain ⟨u0, rfl⟩ := len1 h; rfl) (fun vs H Q E h => by obtain ⟨b, d, S, n, rfl, hb, ht, q⟩ := h; rfl) fun f cdv A outer s H vs Q E hr h => ?_
  obtain ⟨b, d, S, n, rfl, hb, ht, q⟩ := h
  refine ⟨_, PSs.nox ((pss_cons (ps_set (i := 1) sc_Books_other.nd rfl (Or.inl rfl) (pk (c_Books_init T) (hr.mono (by decide)) pass0 (pa_cons (pe_fldS T.cl_Books T.n_Books_of_county (pv 0) rfl) (pa_cons (pe_fldS T.cl_Books T.n_Books_of_total (pv 0) rfl) (pa_cons (pe_fldS T.cl_Books T.n_Books_of_excused (pv 0) rfl) pa_nil)))))
  (pss_cons (ps_asg (pe_tupS (pa_cons (pe_fldS T.cl_Books T.n_Books_on_year (pv 0) rfl) (pa_cons (pe_fldS T.cl_Books T.n_Books_on_day (pv 0) rfl) (pa_cons (pe_fldS T.cl_Books T.n_Books_halves (pv 0) rfl) pa_nil)))) (pg_tupS (n := 3) rfl (pgs_cons (pg_fldS T.cl_Books T.n_Books_on_year (pv 1)) (pgs_cons (pg_fldS T.cl_Books T.n_Books_on_day (pv 1)) (pgs_cons (pg_fldS T.cl_Books T.n_Books_halves (pv 1)) pgs_nil)))))
  (pss_cons (ps_asg (pe_tupS (pa_cons (pe_fldS T.cl_Books T.n_Books_shut (pv 0) rfl) (pa_cons (pe_fldS T.cl_Books T.n_Books_coming (pv 0) rfl) (pa_cons (pe_fldS T.cl_Books T.n_Books_to_county (pv 0) rfl) pa_nil)))) (pg_tupS (n := 3) rfl (pgs_cons (pg_fldS T.cl_Books T.n_Books_shut (pv 1)) (pgs_cons (pg_fldS T.cl_Books T.n_Books_coming (pv 1)) (pgs_cons (pg_fldS T.cl_Books T.n_Books_to_county (pv 1)) pgs_nil)))))
  (pss_cons (ps_fldS T.cl_Books T.n_Books_by_parish (pv 1) (pe_callTy call_dictD (by rfl) T.f_dict boot_dict (pa_cons (pe_fldS T.cl_Books T.n_Books_by_parish (pv 0) rfl) pa_nil)) rfl)
  (pss_one (ps_ret (pv 1)))))))), ?_⟩
  have hb0 := hb
  obtain ⟨dx, vc, ve, vs, vk, hb, r1, r2, r3, r4⟩ := hb
  obtain ⟨kvs, hd, hl, hk⟩ := ht
  refine ⟨_, rfl, b, dx, _, _, rfl, hb, rfl, _, rfl, b, dx, _, _, rfl, hb, rfl, _, rfl, b, dx, _, _, rfl, hb, rfl, fun x dx2 hx hdx hne => ?_⟩
  have s0 : Same H (upd (upd H dx2 (.own x)) x (.ins T.cBooks dx2 [])) := fun a u h => by
    rw [upd_ne (ne_of_none h hx), upd_ne (ne_of_none h hdx)]
    exact h
  refine ⟨x, dx2, vc, ve, S.total, S.county, S.excused, rfl, upd_same, mn s0 r1, mn s0 r2, fun d2 H2 keep hd2 h2 hk2 => ⟨rfl, ?_⟩⟩
  have s02 : Same H H2 := fun a u h => keep a u (ne_of_none h hx) (s0 a u h)
  have hd2H : H d2 = none := none_back s0 hd2
  obtain ⟨dx3, vc2, ve2, vs2, vk2, hx2, q1, q2, q3, q4⟩ := hk2
  have nbx : b ≠ x := ne_of_none hb hx
  refine ⟨_, rfl, b, dx, _, _, rfl, s02 _ _ hb, rfl, _, rfl, b, dx, _, _, rfl, s02 _ _ hb, rfl, _, rfl, b, dx, _, _, rfl, s02 _ _ hb, rfl, le3, fun p3 H3 hp3 s3 h3 => ?_⟩
  have s03 := s02.trans s3
  refine ⟨p3, _, rfl, h3, rfl, _, _, rfl, _, rfl, x, dx3, _, rfl, s3 _ _ hx2, bk_few, ?_⟩
  refine ⟨_, _, rfl, _, rfl, x, dx3, bkF { bk0 S.county S.total S.excused with year := S.year } vc2 ve2 vs2 vk2 d2, rfl, upd_same, bk_few, ?_⟩
  refine ⟨_, _, rfl, _, rfl, x, dx3, bkF { bk0 S.county S.total S.excused with year := S.year, day := S.day } vc2 ve2 vs2 vk2 d2, rfl, upd_same, bk_few, rfl, ?_⟩
  rw [upd_upd, upd_upd]
  have hbx : ∀ o, upd H3 x o b = some (.ins T.cBooks dx (bkF S vc ve vs vk d)) := fun o => by rw [upd_ne nbx]; exact s03 _ _ hb
  refine ⟨_, rfl, b, dx, _, _, rfl, hbx _, rfl, _, rfl, b, dx, _, _, rfl, hbx _, rfl, _, rfl, b, dx, _, _, rfl, hbx _, rfl, le3, fun p4 H4 hp4 s4 h4 => ?_⟩
  refine ⟨p4, _, rfl, h4, rfl, _, _, rfl, _, rfl, x, dx3, bkF { bk0 S.county S.total S.excused with year := S.year, day := S.day, halves := S.halves } vc2 ve2 vs2 vk2 d2, rfl, s4 _ _ upd_same, bk_few, ?_⟩
  refine ⟨_, _, rfl, _, rfl, x, dx3, bkF { bk0 S.county S.total S.excused with year := S.year, day := S.day, halves := S.halves } vc2 ve2 vs vk2 d2, rfl, upd_same, bk_few, ?_⟩
  refine ⟨_, _, rfl, _, rfl, x, dx3, bkF { bk0 S.county S.total S.excused with year := S.year, day := S.day, halves := S.halves } vc2 ve2 vs vk d2, rfl, upd_same, bk_few, rfl, ?_⟩
  rw [upd_upd, upd_upd]
  have hx4 := s4 _ _ (upd_same (H := H3) (a := x))
  have k04 : ∀ a u, H a = some u → H4 a = some u := fun a u h => s4 _ _ (by rw [upd_ne (ne_of_none h hx)]; exact s03 _ _ h)
  refine ⟨_, rfl, b, dx, bkF S vc ve vs vk d, _, rfl, ?_, rfl, d, kvs, rfl, .inl ?_, fun d3 hd3 => ?_⟩
  · rw [upd_ne nbx]
    exact k04 _ _ hb
  · rw [upd_ne (ne_of_none hd hx)]
    exact k04 _ _ hd
  have nxd3 : x ≠ d3 := ne_of_none upd_same hd3
  refine ⟨_, rfl, x, dx3, bkF { bk0 S.county S.total S.excused with year := S.year, day := S.day, halves := S.halves, toC := S.toC } vc2 ve2 vs vk d2, rfl, ?_, bk_few, ?_⟩
  · rw [upd_ne nxd3]
    exact upd_same
  have hd34 : H4 d3 = none := by rw [upd_ne (Ne.symm nxd3)] at hd3; exact hd3
  have hd3H : H d3 = none := by
    cases e : H d3 with
    | none => rfl
    | some u =>
      rw [k04 _ _ e] at hd34
      cases hd34
  have kf : ∀ o1 o2 o3, Same H (upd (upd (upd H4 x o1) d3 o2) x o3) := fun o1 o2 o3 a u h => by
    rw [upd_ne (ne_of_none h hx), upd_ne (ne_of_none h hd3H), upd_ne (ne_of_none h hx)]
    exact k04 _ _ h
  have tk2 : ∀ o1 o2 o3, Tk H2 (upd (upd (upd H4 x o1) d3 o2) x o3) := fun o1 o2 o3 a u h => by
    have nax : a ≠ x := fun e => by rw [e, hx2] at h; cases h
    have h4 : H4 a = some (.tup u) := s4 _ _ (by rw [upd_ne nax]; exact s3 _ _ h)
    have nad : a ≠ d3 := ne_of_none h4 hd34
    rw [upd_ne nax, upd_ne nad, upd_ne nax]
    exact h4
  refine ⟨_, rfl, q x d3 _ (kf _ _ _) hx hd3H nxd3 ⟨dx3, vc2, ve2, vs, vk, upd_same, Mon.go (tk2 _ _ _) q1, Mon.go (tk2 _ _ _) q2, mn (kf _ _ _) r3, mn (kf _ _ _) r4⟩ ⟨kvs, ?_, hl, fun kv hkv => ?_⟩⟩
  · rw [upd_ne (Ne.symm nxd3)]
    exact upd_same
  · obtain ⟨a, ts, e, h5, h6, h7⟩ := hk kv hkv
    exact ⟨a, ts, e, kf _ _ _ _ _ h5, h6, fun t ht => ((h7 t ht).mv hd3H).mono (kf _ _ _)⟩
abbrev N_Books_rows_of_half : List Str := ["self", "number", "known", "found", "house", "holding", "part", "pence"]
theorem sc_Books_rows_of_half : FnScope N_Books_rows_of_half ["self", "number"] (defScope (inClass (top 61) 2)) := ⟨rfl, rfl, rfl, by decide +kernel, rfl, by decide +kernel, by decide +kernel⟩
theorem c_Books_rows_of_half (T : Txt w K mg) : Mt P w K mg base CX0 6 T.cBooks "rows_of_half" (spRows T.cBooks) := by
  refine Mt.of T.d_Books_rows_of_half sc_Books_rows_of_half (fun _ _ _ _ _ _ us h => by obtain ⟨u0, u1, rfl⟩ := len2 h; rfl) (fun vs H Q E h => by obtain ⟨b, d, S, ppl, k, rfl, hb, ok, q⟩ := h; rfl) fun f cdv A outer s H vs Q E hr h => ?_
  obtain ⟨b, d, S, ppl, k, rfl, hb, ok, q⟩ := h
  refine ⟨_, PSs.nox ((pss_cons (ps_par (i := 2) (j := 3) rfl sc_Books_rows_of_half.nd rfl rfl (by decide) rfl rfl (pa_cons (pc (c_all_parts T) (hr.mono (by decide)) pass0 (pa_cons (pe_fldS T.cl_Books T.n_Books_of_county (pv 0) rfl) (pa_cons (pe_fldS T.cl_Books T.n_Books_of_total (pv 0) rfl) pa_nil))) (pa_cons (pe_lstS pa_nil) pa_nil)) (by rfl))
  (pss_cons (ps_for PassesOwn.never rfl (pi_list (pc (c_all_houses T) (hr.mono (by decide)) pass0 (pa_cons (pe_fldS T.cl_Books T.n_Books_of_county (pv 0) rfl) pa_nil))) (pg_name (i := 4) sc_Books_rows_of_half.nd rfl (Or.inl rfl))
  (pss_one (ps_for PassesOwn.never rfl (pi_zipX (by rfl) T.f_zip (pa_cons (pe_ix ix_tupS (pv 4) pe_int (fun _ _ => rfl)) (pa_cons (pe_dget (hu_of hr) (pv 2) (pe_ix ix_tupS (pv 4) pe_int (fun _ _ => rfl)) (fun _ _ => rfl)) pa_nil))) (pg_tupS (n := 2) rfl (pgs_cons (pg_name (i := 5) sc_Books_rows_of_half.nd rfl (Or.inl rfl)) (pgs_cons (pg_name (i := 6) sc_Books_rows_of_half.nd rfl (Or.inl rfl)) pgs_nil)))
  (pss_cons (ps_set (i := 7) sc_Books_rows_of_half.nd rfl (Or.inl rfl) (L2.PE.cl (pe_ifExp (pt_cmpR op_eq (pv 1) pe_int (nomark _)) (pe_op op_sub (pv 6) (pe_op op_fdiv (pv 6) pe_int)) (pe_op op_fdiv (pv 6) pe_int))))
  (pss_one (ps_if (PW.pt (pw_and (pt_cmpR op_gt (pv 7) pe_int (nomark _)) (pw_and1 (pt_cmpR op_notInS (pe_ix ix_tupS (pv 5) pe_int (fun _ _ => rfl)) (pe_fldS T.cl_Books T.n_Books_of_excused (pv 0) rfl) rfl)))) (pss_one (ps_expr (pe_bm PySem.F.plainAttrs_list PySem.F.slot_list_append PySem.F.type_list_append mt_append (pv 3) (pa_cons (pe_tupS (pa_cons (pe_ix ix_tupS (pv 5) pe_int (fun _ _ => rfl)) (pa_cons (pe_tupS (pa_cons (pe_fldS T.cl_Books T.n_Books_on_year (pv 0) rfl) (pa_cons (pv 1) (pa_cons (pe_ix ix_tupS (pv 4) pe_int (fun _ _ => rfl)) (pa_cons (pe_ix ix_tupS (pv 5) pe_int (fun _ _ => rfl)) (pa_cons (pv 7) pa_nil)))))) pa_nil))) pa_nil)))) pss_nil))))))
  (pss_one (ps_ret (pv 3)))))), ?_⟩
  obtain ⟨dx, vc, ve, vs, vk, hb, r1, r2, r3, r4⟩ := hb
  have hc := ok.co.hi
  have hl := ok.co.len
  refine ⟨_, rfl, b, dx, _, _, rfl, hb, rfl, _, rfl, b, dx, _, _, rfl, hb, rfl, S.county, S.total, ⟨vc, rfl, r1, ok.co, ok.pos, ok.t0, ok.t1⟩, fun p1 kvs H1 s1 hp1 h1 pk => ⟨le0, fun p2 H2 hp2 s2 h2 => ⟨_, _, rfl, ?_⟩⟩⟩
  have s12 := s1.trans s2
  have hnp2 : H p2 = none := none_back s1 hp2
  have n12 : p1 ≠ p2 := ne_of_none h1 hp2
  refine ⟨_, rfl, b, dx, _, _, rfl, s12 _ _ hb, rfl, vc, S.county, rfl, mn s12 r1, by omega, by omega, fun p3 us3 H3 s3 hp3 h3 pu3 => ?_⟩
  have n32 : p3 ≠ p2 := (ne_of_none h2 hp3).symm
  have s13 := s12.trans s3
  obtain ⟨ea, es, rfl, hea, pes⟩ := r2
  refine ⟨p3, rfl, ⟨us3, SqL.of h3⟩, ?_⟩
  refine forS (A := rHouse) (ds := allHouses S.county) src_list (Pv := fun i σ H6 => ∃ x4 x5 x6 x7 acc, σ = [some (.ref b), some (.int k), some (.ref p1), some (.ref p2), x4, x5, x6, x7] ∧ Same H H6 ∧ H6 p2 = some (.lst acc) ∧
    Paired (rPRow H6) acc ((((allHouses S.county).take i).map (rowsOf S.county S.total S.excused S.year k)).flatten) ∧ H6 p1 = some (.dK kvs) ∧ Paired (rKV (rTL rI) H6) kvs (allParts S.county S.total) ∧ OkL rHouse p3 (allHouses S.county) H6) ?_ ?_ ?_ ?_
  · exact ⟨_, _, _, _, [], rfl, s13, s3 _ _ h2, .nil, s3 _ _ (s2 _ _ h1), kv_mono (s2.trans s3).tk pk, us3, h3, pu3⟩
  · rintro i σ H6 hi ⟨x4, x5, x6, x7, acc, rfl, s6, h6, p6, d6, k6, o6⟩
    exact o6
  · rintro i hs x σ H6 H7 hd ⟨x4, x5, x6, x7, acc, rfl, s6, h6, p6, d6, k6, o6⟩ s7 r
    have hm := List.mem_of_getElem? hd
    have okd := ok.co.house hs hm
    have hdl := okd.len
    have rh := r
    obtain ⟨a, y1, y2, y3, rfl, ha, rfl, rfl, b2, vs2, rfl, hb2, pv⟩ := r
    have hvl : vs2.length = hs.2.2.length := pr_len pv
    have hmem : (hs.1, partsSo hs (sumOf S.county S.total hs.1)) ∈ allParts S.county S.total := List.mem_map.mpr ⟨hs, hm, rfl⟩
    have hnd : ((allParts S.county S.total).map (·.1)).Nodup := by
      unfold allParts
      rw [List.map_map]
      exact ok.co.hnd
    obtain ⟨y, hy, ry⟩ := kv_find (kv_mono s7.tk k6) hnd hmem
    obtain ⟨g, ps, rfl, hg, pg⟩ := ry
    have hgl := DGet.k (k := Sum.inr hs.1) (s7 _ _ d6)
    rw [hy] at hgl
    refine ⟨_, rfl, a, _, 2, _, rfl, rfl, ha, rfl, _, rfl, _, rfl, a, _, 0, _, rfl, rfl, ha, rfl, p1, _, rfl, hgl, ?_⟩
    refine ⟨.t, .t, _, _, vs2, ps, rfl, ⟨b2, rfl, SqT.of hb2⟩, ⟨g, rfl, SqT.of hg⟩, ?_⟩
    have hpre : ((((allHouses S.county).take i).map (rowsOf S.county S.total S.excused S.year k)).flatten).length ≤ 720 := Nat.le_trans (flat_take_le _ _ _) (ok.rlen k)
    have hps : (partsSo hs (sumOf S.county S.total hs.1)) = partsSo hs (sumOf S.county S.total hs.1) := rfl
    generalize hPre : (((allHouses S.county).take i).map (rowsOf S.county S.total S.excused S.year k)).flatten = pre at *
    refine forS (A := rP rHold rI) (ds := hs.2.2.zip (partsSo hs (sumOf S.county S.total hs.1))) src_zip (Pv := fun j σ H8 => ∃ x5 x6 x7 acc, σ = [some (.ref b), some (.int k), some (.ref p1), some (.ref p2), some (.ref a), x5, x6, x7] ∧ Same H H8 ∧ Tk H7 H8 ∧ H8 p2 = some (.lst acc) ∧
      Paired (rPRow H8) acc (pre ++ ((((hs.2.2.zip (partsSo hs (sumOf S.county S.total hs.1))).take j).filter fun x => decide (0 < half k x.2) && !inE x.1.1 S.excused).map fun x => (x.1.1, (S.year, k, hs.1, x.1.2.1, half k x.2)))) ∧
      H8 p1 = some (.dK kvs) ∧ Paired (rKV (rTL rI) H8) kvs (allParts S.county S.total) ∧ OkL rHouse p3 (allHouses S.county) H8) ?_ ?_ ?_ ?_
    · refine ⟨_, _, _, acc, rfl, s6.trans s7, Tk.refl _, s7 _ _ h6, ?_, s7 _ _ d6, kv_mono s7.tk k6, okL_mono s7 o6⟩
      simpa using mnL s7.tk p6
    · rintro j σ H8 hj ⟨x5, x6, x7, acc, rfl, s8, t8, h8, p8, d8, k8, o8⟩
      exact ⟨⟨b2, rfl, vs2, t8 _ _ hb2, mnL t8 pv⟩, ⟨g, rfl, ps, t8 _ _ hg, mnL t8 pg⟩⟩
    · rintro j e x σ H8 H9 he ⟨x5, x6, x7, acc, rfl, s8, t8, h8, p8, d8, k8, o8⟩ s9 r
      obtain ⟨T0, z1, z2, rfl, hT, ⟨a5, w1, w2, w3, rfl, h5, rfl, rfl, rfl⟩, rfl⟩ := r
      have t79 := t8.trans s9.tk
      have s89 := s8.trans s9
      have hb9 := s89 _ _ hb
      refine ⟨T0, _, rfl, hT, rfl, _, _, rfl, _, _, rfl, rfl, ?_⟩
      refine ⟨fun v H' => H' = H9 ∧ v = .int (half k e.2), ⟨_, rfl, rfl, _, rfl, ite2 (fun z => ?_) (fun z => ?_)⟩, fun v H' hR => ?_⟩
      · have z : V.int k = V.int 1 := of_decide_eq_true z
        injection z with z
        exact ⟨_, rfl, _, rfl, _, _, rfl, rfl, ⟨by decide, by decide⟩, _, _, rfl, rfl, rfl, by unfold half; rw [if_pos z]⟩
      · have z : ¬ k = 1 := fun y => z (decide_eq_true (by rw [y]))
        exact ⟨_, rfl, _, _, rfl, rfl, ⟨by decide, by decide⟩, rfl, by unfold half; rw [if_neg z]⟩
      obtain ⟨rfl, rfl⟩ := hR
      have skip : (decide (0 < half k e.2) && !inE e.1.1 S.excused) = false → ∃ x5 x6 x7 acc, ([some (.ref b), some (.int k), some (.ref p1), some (.ref p2), some (.ref a), some (.ref a5), some (.int e.2), some (.int (half k e.2))] : L2.St) = [some (.ref b), some (.int k), some (.ref p1), some (.ref p2), some (.ref a), x5, x6, x7] ∧ Same H H' ∧ Tk H7 H' ∧ H' p2 = some (.lst acc) ∧
          Paired (rPRow H') acc (pre ++ ((((hs.2.2.zip (partsSo hs (sumOf S.county S.total hs.1))).take (j + 1)).filter fun x => decide (0 < half k x.2) && !inE x.1.1 S.excused).map fun x => (x.1.1, (S.year, k, hs.1, x.1.2.1, half k x.2)))) ∧
          H' p1 = some (.dK kvs) ∧ Paired (rKV (rTL rI) H') kvs (allParts S.county S.total) ∧ OkL rHouse p3 (allHouses S.county) H' := fun z => by
        refine ⟨_, _, _, acc, rfl, s89, t79, s9 _ _ h8, ?_, s9 _ _ d8, kv_mono s9.tk k8, okL_mono s9 o8⟩
        rw [take_more he, List.filter_append, List.filter_cons_of_neg (by rw [z]; decide)]
        simpa using mnL s9.tk p8
      refine ⟨_, rfl, _, _, rfl, rfl, _, rfl, ite2 (fun z => ?_) (fun z => ?_)⟩
      · have z : 0 < half k e.2 := of_decide_eq_true z
        refine ⟨_, rfl, a5, _, 0, _, rfl, rfl, h5, rfl, _, rfl, b, dx, _, _, rfl, hb9, rfl, ea, es, rfl, .inr (s89 _ _ hea), rfl, by rw [pr_str pes]; exact flat_strs _, !inE e.1.1 S.excused, by rw [pr_str pes]; rfl, ite2 (fun y => ?_) (fun y => ?_)⟩
        · refine ⟨_, rfl, .inl ⟨rfl, _, SqL.of (s9 _ _ h8)⟩, _, rfl, a5, _, 0, _, rfl, rfl, h5, rfl, _, rfl, b, dx, _, _, rfl, hb9, rfl, _, rfl, _, rfl, a, _, 0, _, rfl, rfl, t79 _ _ ha, rfl, _, rfl, a5, _, 1, _, rfl, rfl, h5, rfl, _, rfl, le5, fun p9 H10 hp9 s10 h10 => ⟨le2, fun p11 H11 hp11 s11 h11 => ?_⟩⟩
          have s911 := s10.trans s11
          have h81 := s911 _ _ (s9 _ _ h8)
          have hal : acc.length ≤ 732 := by
            rw [pr_len p8, List.length_append, List.length_map]
            have h1 := List.length_filter_le (fun x : Hold × Int => decide (0 < half k x.2) && !inE x.1.1 S.excused) ((hs.2.2.zip (partsSo hs (sumOf S.county S.total hs.1))).take j)
            have h2 : ((hs.2.2.zip (partsSo hs (sumOf S.county S.total hs.1))).take j).length ≤ 12 := by
              rw [List.length_take, List.length_zip]
              omega
            omega
          refine ⟨p2, acc, _, rfl, rfl, h81, line_lt (by omega), ?_⟩
          have tk : Tk H11 (upd H11 p2 (.lst (acc ++ [.ref p11]))) := Tk.upd h81 fun _ z => by cases z
          have s8B := s89.trans s911
          refine ⟨_, _, _, acc ++ [.ref p11], rfl, s8B.mut hnp2, (t79.trans s911.tk).trans tk, upd_same, ?_, ?_, ?_, ?_⟩
          · rw [take_more he, List.filter_append, List.filter_cons_of_pos (by rw [decide_eq_true z]; exact y), List.map_append, ← List.append_assoc]
            refine pr_app (mnL ((s9.trans s911).tk.trans tk) p8) (.cons (Mon.go (A := rPRow) tk ⟨p11, _, _, rfl, h11, rfl, p9, _, _, _, _, _, rfl, s11 _ _ h10, rfl, rfl, rfl, rfl, rfl⟩) .nil)
          · rw [upd_ne n12]
            exact s911 _ _ (s9 _ _ d8)
          · exact kv_mono ((s9.trans s911).tk.trans tk) k8
          · obtain ⟨zs, hz, pz⟩ := o8
            exact ⟨zs, by rw [upd_ne n32]; exact s911 _ _ (s9 _ _ hz), mnL ((s9.trans s911).tk.trans tk) pz⟩
        · exact skip (by rw [decide_eq_true z, show (!inE e.1.1 S.excused) = false by simpa using y]; rfl)
      · have z : ¬ 0 < half k e.2 := fun y => z (decide_eq_true y)
        exact iteF (skip (by rw [decide_eq_false z]; rfl))
    · rintro σ H8 ⟨x5, x6, x7, acc, rfl, s8, t8, h8, p8, d8, k8, o8⟩
      refine ⟨_, _, _, _, acc, rfl, s8, h8, ?_, d8, k8, o8⟩
      rw [List.take_of_length_le (Nat.le_refl _)] at p8
      rw [take_more hd, List.map_append, List.flatten_append, hPre]
      simpa [rowsOf] using p8
  · rintro σ H6 ⟨x4, x5, x6, x7, acc, rfl, s6, h6, p6, d6, k6, o6⟩
    rw [List.take_length] at p6
    exact ⟨_, rfl, q p2 acc H6 s6 hnp2 h6 p6⟩
end
end K5
set_option maxHeartbeats 4000000
namespace K5
open PySem PySem.Spec PyProof.Rows L2
open K5M (shareOut)
def rARow : Rel (Row × Int) := fun H v x => ∃ a, v = .ref a ∧ H a = some (.tup [.int x.1.1, .int x.1.2.1, .str x.1.2.2.1, .int x.1.2.2.2.1, .int x.1.2.2.2.2, .int x.2])
instance : Mon rARow := ⟨fun t ⟨a, e, h⟩ => ⟨a, e, t _ _ h⟩⟩
theorem BkOk.alen {ppl : List Str} {S : Bk} (ok : BkOk ppl S) : S.all.length ≤ 28800 := by
  unfold Bk.all
  rw [List.length_append]
  have h1 := flat_len (f := fun i : Nat => S.rows ((i : Int) + 1)) (n := 720) (l := List.range S.halves.toNat) fun x _ => ok.rlen _
  rw [List.length_range] at h1
  have h2 := ok.slen
  have h3 := ok.y1
  have h4 := ok.v1
  have h5 := ok.v0
  omega
theorem rowsOf_name {c : County} {t : Int} {ex : List Str} {y k : Int} {h : House} {r : Str × Row} (hr : r ∈ rowsOf c t ex y k h) : ∃ x ∈ h.2.2, x.1 = r.1 := by
  unfold rowsOf at hr
  obtain ⟨x, hx, rfl⟩ := List.mem_map.mp hr
  exact ⟨x.1, (List.of_mem_zip (List.mem_filter.mp hx).1).1, rfl⟩
theorem BkOk.rname {ppl : List Str} {S : Bk} (ok : BkOk ppl S) {k : Int} {r : Str × Row} (hr : r ∈ S.rows k) : r.1 ∈ ppl := by
  unfold Bk.rows rowsHalf at hr
  obtain ⟨l, hl, hx⟩ := List.mem_flatten.mp hr
  obtain ⟨h, hh, rfl⟩ := List.mem_map.mp hl
  obtain ⟨x, hx2, e⟩ := rowsOf_name hx
  rw [← e]
  exact ok.hold h hh x hx2
theorem BkOk.aname {ppl : List Str} {S : Bk} (ok : BkOk ppl S) {r : Str × Row} (hr : r ∈ S.all) : r.1 ∈ ppl := by
  unfold Bk.all at hr
  rcases List.mem_append.mp hr with z | z
  · exact (ok.old r z).2
  · obtain ⟨l, hl, hx⟩ := List.mem_flatten.mp z
    obtain ⟨i, _, rfl⟩ := List.mem_map.mp hl
    exact ok.rname hx
def paidBy (S : Bk) (z : Str) : Int := ((S.coming.filter fun r => decide (r.2.2.2.1 = z)).map (·.2.2.2.2)).sum
def spPaidBy (CB : Addr) : Sp := fun vs H Q _ => ∃ b d S z, vs = [.ref b, .str z] ∧ IsBk CB H b d S ∧ S.coming.length ≤ 1000 ∧ ∀ H', Same H H' → Q (.int (paidBy S z)) H'
def spAccount (CB : Addr) : Sp := fun vs H Q _ => ∃ b d S ppl z, vs = [.ref b, .str z] ∧ IsBk CB H b d S ∧ BkOk ppl S ∧
  ∀ a p us rs left H', Same H H' → H' a = some (.tup [.ref p, .int left]) → H' p = some (.lst us) → Paired (rARow H') us rs → rs.length ≤ 28800 → Q (.ref a) H'
def spHolders (CB : Addr) : Sp := fun vs H Q _ => ∃ b d S ppl, vs = [.ref b] ∧ IsBk CB H b d S ∧ BkOk ppl S ∧ ppl.length < 64 ∧
  ∀ p (ys : List Str) H', Same H H' → H p = none → H' p = some (.lst (ys.map V.str)) → ys.length < 64 → Q (.ref p) H'
def spInHand (CT : Addr) : Sp := fun vs H Q _ => ∃ d n t, vs = [t] ∧ IsTerm CT H d n t ∧ n ≤ 1000 ∧ ∀ i H', Same H H' → Q (.int i) H'
section
variable {P : Program} {w : World} {K : PySem.W.Frag} {mg : Str → Option Value} {base : Heap}
abbrev N_Books_all_rows : List Str := ["self", "found", "number"]
theorem sc_Books_all_rows : FnScope N_Books_all_rows ["self"] (defScope (inClass (top 61) 3)) := ⟨rfl, rfl, rfl, by decide +kernel, rfl, by decide +kernel, by decide +kernel⟩
theorem c_Books_all_rows (T : Txt w K mg) : Mt P w K mg base CX0 7 T.cBooks "all_rows" (spAll T.cBooks) := by
  refine Mt.of T.d_Books_all_rows sc_Books_all_rows (fun _ _ _ _ _ _ us h => by obtain ⟨u0, rfl⟩ := len1 h; rfl) (fun vs H Q E h => by obtain ⟨b, d, S, ppl, rfl, hb, ok, q⟩ := h; rfl) fun f cdv A outer s H vs Q E hr h => ?_
  obtain ⟨b, d, S, ppl, rfl, hb, ok, q⟩ := h
  refine ⟨_, PSs.nox ((pss_cons (ps_set (i := 1) sc_Books_all_rows.nd rfl (Or.inl rfl) (pe_callTy call_listS (by rfl) T.f_list boot_list (pa_cons (pe_fldS T.cl_Books T.n_Books_shut (pv 0) rfl) pa_nil)))
  (pss_cons (ps_for PassesOwn.never rfl (pi_range2 rfl T.f_range (pa_cons pe_int (pa_cons (pe_op op_add (pe_fldS T.cl_Books T.n_Books_halves (pv 0) rfl) pe_int) pa_nil))) (pg_name (i := 2) sc_Books_all_rows.nd rfl (Or.inl rfl))
  (pss_one (ps_expr (pe_bm PySem.F.plainAttrs_list PySem.F.slot_list_extend PySem.F.type_list_extend mt_extend (pv 1) (pa_cons (pm (c_Books_rows_of_half T) (hr.mono (by decide)) pass0 (pv 0) (pa_cons (pv 2) pa_nil)) pa_nil)))))
  (pss_one (ps_ret (pv 1)))))), ?_⟩
  have hb0 := hb
  obtain ⟨dx, vc, ve, vs, vk, hb, r1, r2, ⟨e, es, rfl, he, pe⟩, r4⟩ := hb
  have hl := ok.alen
  have v0 := ok.v0
  have v1 := ok.v1
  refine ⟨_, rfl, b, dx, _, _, rfl, hb, rfl, e, es, rfl, .inr he, fun p H1 hp s1 h1 => ?_⟩
  refine ⟨_, rfl, b, dx, _, _, rfl, s1 _ _ hb, rfl, _, _, rfl, rfl, _, _, rfl, ⟨by decide, by decide, by omega, by omega⟩, ?_⟩
  have en : (S.halves + 1 - 1).toNat = S.halves.toNat := by rw [show S.halves + 1 - 1 = S.halves by omega]
  refine forS (A := rI) (ds := (List.range (S.halves + 1 - 1).toNat).map fun i : Nat => 1 + (i : Int)) src_range (Pv := fun i σ H6 => ∃ x2 acc, σ = [some (.ref b), some (.ref p), x2] ∧ Same H H6 ∧ H6 p = some (.lst acc) ∧
    Paired (rPRow H6) acc (S.shut ++ (((List.range S.halves.toNat).take i).map fun i : Nat => S.rows ((i : Int) + 1)).flatten)) ?_ ?_ ?_ ?_
  · refine ⟨_, es, rfl, s1, h1, ?_⟩
    simpa using mnL s1.tk pe
  · exact fun _ _ _ _ _ => True.intro
  · rintro i y x σ H6 H7 hd ⟨x2, acc, rfl, s6, h6, p6⟩ s7 r
    obtain rfl : x = .int y := r
    rw [List.getElem?_map, en] at hd
    obtain ⟨j, hj, ej⟩ : ∃ j, (List.range S.halves.toNat)[i]? = some j ∧ 1 + (j : Int) = y := by
      cases e : (List.range S.halves.toNat)[i]? with
      | none => rw [e] at hd; cases hd
      | some j => rw [e] at hd; exact ⟨j, rfl, Option.some.inj hd⟩
    have s67 := s6.trans s7
    refine ⟨_, rfl, .inl ⟨rfl, _, SqL.of (s7 _ _ h6)⟩, _, rfl, b, dx, _, rfl, s67 _ _ hb, rfl, _, rfl, b, d, S, ppl, y, rfl, IsBk.mono s67 hb0, ok, fun p8 us8 H8 s8 hp8 h8 pu8 => ?_⟩
    have s78 := s7.trans s8
    have h68 := s78 _ _ h6
    have hsz : acc.length + us8.length ≤ 100000 := by
      have h1 := ok.rlen y
      rw [pr_len p6, pr_len pu8, List.length_append]
      have h2 := flat_take_le (fun i : Nat => S.rows ((i : Int) + 1)) (List.range S.halves.toNat) i
      have h3 : S.all.length = S.shut.length + (((List.range S.halves.toNat).map fun i : Nat => S.rows ((i : Int) + 1)).flatten).length := by unfold Bk.all; rw [List.length_append]
      omega
    refine ⟨p, p8, acc, us8, rfl, rfl, h68, h8, line_of (by omega), ?_⟩
    have tk : Tk H8 (upd H8 p (.lst (acc ++ us8))) := Tk.upd h68 fun _ z => by cases z
    refine ⟨_, acc ++ us8, rfl, (s6.trans s78).mut hp, upd_same, ?_⟩
    rw [take_more hj, List.map_append, List.flatten_append, ← List.append_assoc]
    refine pr_app (mnL (s78.tk.trans tk) p6) ?_
    have e9 : (([j].map fun i : Nat => S.rows ((i : Int) + 1)).flatten) = S.rows y := by
      rw [List.map_cons, List.map_nil, List.flatten_cons, List.flatten_nil, List.append_nil, ← ej, Int.add_comm]
    rw [e9]
    exact mnL tk pu8
  · rintro σ H6 ⟨x2, acc, rfl, s6, h6, p6⟩
    rw [List.length_map, List.length_range, en, List.take_of_length_le (by rw [List.length_range]; exact Nat.le_refl _)] at p6
    exact ⟨_, rfl, q p acc H6 s6 hp h6 p6⟩
abbrev N_Books_paid_by : List Str := ["self", "holder", "row"]
theorem sc_Books_paid_by : FnScope N_Books_paid_by ["self", "holder"] (defScope (inClass (top 61) 4)) := ⟨rfl, rfl, rfl, by decide +kernel, rfl, by decide +kernel, by decide +kernel⟩
theorem c_Books_paid_by (T : Txt w K mg) : Mt P w K mg base CX0 1 T.cBooks "paid_by" (spPaidBy T.cBooks) := by
  refine Mt.of T.d_Books_paid_by sc_Books_paid_by (fun _ _ _ _ _ _ us h => by obtain ⟨u0, u1, rfl⟩ := len2 h; rfl) (fun vs H Q E h => by obtain ⟨b, d, S, z, rfl, hb, hl, q⟩ := h; rfl) fun f cdv A outer s H vs Q E hr h => ?_
  obtain ⟨b, d, S, z, rfl, hb, hl, q⟩ := h
  refine ⟨_, PSs.nox ((pss_one (ps_ret (pe_callB (cr_sumS rfl) (by rfl) T.f_sum boot_sum (pa_cons (pe_lcS (own := [("row", 2)]) (by rfl) sc_Books_paid_by.nd (pi_tup (pe_fldS T.cl_Books T.n_Books_coming (pv 0) rfl)) (blkOk_by (own := [("row", 2)]) (N := N_Books_paid_by) (sc := defScope (inClass (top 61) 4)) (by decide +kernel)) (fun _ _ _ _ _ => (pg_name (i := 2) sc_Books_paid_by.nd rfl (Or.inl rfl))) (fun _ _ _ _ _ => (pts_one (pt_cmpR op_eq (pe_ix ix_tupS (pv 2) pe_int (fun _ _ => rfl)) (pv 1) (nomark _)))) (fun _ _ _ _ _ => (pe_ix ix_tupS (pv 2) pe_int (fun _ _ => rfl)))) pa_nil))))), ?_⟩
  obtain ⟨dx, vc, ve, vs, vk, hb, r1, r2, r3, ⟨e, es, rfl, he, pe⟩⟩ := hb
  refine ⟨_, rfl, b, dx, _, _, rfl, hb, rfl, e, rfl, ⟨es, SqT.of he⟩, fun D hD => ?_⟩
  refine lcS (A := rRec) (B := rI) (ds := S.coming) src_tup (fun r => decide (r.2.2.2.1 = z)) (fun r => r.2.2.2.2) hD (by omega)
    (fun H5 s5 => okT_mono s5.tk ⟨es, he, pe⟩) (fun i y x H5 hd s5 r => ?_) fun acc5 H5 s5 hD5 pa5 => ?_
  · obtain ⟨a1, z1, z2, z3, z4, z5, rfl, g1, rfl, rfl, rfl, rfl, rfl⟩ := r
    refine ⟨rfl, _, rfl, a1, _, 3, _, rfl, rfl, g1, rfl, _, rfl, rfl, _, rfl, ite2 (fun q => ?_) (fun q => ?_)⟩
    · have q : V.str y.2.2.2.1 = V.str z := of_decide_eq_true q
      injection q with q
      exact ⟨_, rfl, a1, _, 4, _, rfl, rfl, g1, rfl, Same.refl _, decide_eq_true q, rfl⟩
    · exact ⟨Same.refl _, decide_eq_false fun e => q (decide_eq_true (by rw [e]))⟩
  · exact ⟨D, acc5, _, rfl, hD5, pa5, q _ s5⟩
abbrev N_Books_account_of : List Str := ["self", "holder", "left", "found", "name", "row", "paid"]
theorem sc_Books_account_of : FnScope N_Books_account_of ["self", "holder"] (defScope (inClass (top 61) 5)) := ⟨rfl, rfl, rfl, by decide +kernel, rfl, by decide +kernel, by decide +kernel⟩
theorem c_Books_account_of (T : Txt w K mg) : Mt P w K mg base CX0 8 T.cBooks "account_of" (spAccount T.cBooks) := by
  refine Mt.of T.d_Books_account_of sc_Books_account_of (fun _ _ _ _ _ _ us h => by obtain ⟨u0, u1, rfl⟩ := len2 h; rfl) (fun vs H Q E h => by obtain ⟨b, d, S, ppl, z, rfl, hb, ok, q⟩ := h; rfl) fun f cdv A outer s H vs Q E hr h => ?_
  obtain ⟨b, d, S, ppl, z, rfl, hb, ok, q⟩ := h
  refine ⟨_, PSs.nox ((pss_cons (ps_par (i := 2) (j := 3) rfl sc_Books_account_of.nd rfl rfl (by decide) rfl rfl (pa_cons (pm (c_Books_paid_by T) (hr.mono (by decide)) pass0 (pv 0) (pa_cons (pv 1) pa_nil)) (pa_cons (pe_lstS pa_nil) pa_nil)) (by rfl))
  (pss_cons (ps_for PassesOwn.never rfl (pi_list (pm0 (c_Books_all_rows T) (hr.mono (by decide)) pass0 (pv 0))) (pg_tupS (n := 2) rfl (pgs_cons (pg_name (i := 4) sc_Books_account_of.nd rfl (Or.inl rfl)) (pgs_cons (pg_name (i := 5) sc_Books_account_of.nd rfl (Or.inl rfl)) pgs_nil)))
  (pss_one (ps_if (pt_cmpR op_eq (pv 4) (pv 1) (nomark _)) (pss_cons (ps_set (i := 6) sc_Books_account_of.nd rfl (Or.inl rfl) (pe_callB (call_min2 rfl) (by rfl) T.f_min boot_min (pa_cons (pv 2) (pa_cons (pe_ix ix_tupS (pv 5) pe_int (fun _ _ => rfl)) pa_nil))))
  (pss_cons (ps_set (i := 2) sc_Books_account_of.nd rfl (Or.inl rfl) (pe_op op_sub (pv 2) (pv 6)))
  (pss_one (ps_expr (pe_bm PySem.F.plainAttrs_list PySem.F.slot_list_append PySem.F.type_list_append mt_append (pv 3) (pa_cons (pe_op op_catTS (pv 5) (pe_tupS (pa_cons (pv 6) pa_nil))) pa_nil)))))) pss_nil)))
  (pss_one (ps_ret (pe_tupS (pa_cons (pv 3) (pa_cons (pv 2) pa_nil)))))))), ?_⟩
  have hb0 := hb
  have hal := ok.alen
  obtain ⟨dx, vc, ve, vs, vk, hb, r⟩ := hb
  refine ⟨_, rfl, b, dx, _, rfl, hb, rfl, _, rfl, b, d, S, z, rfl, hb0, ok.clen, fun H1 s1 => ⟨le0, fun p2 H2 hp2 s2 h2 => ⟨_, _, rfl, ?_⟩⟩⟩
  have s12 := s1.trans s2
  have hnp2 : H p2 = none := none_back s1 hp2
  refine ⟨_, rfl, b, dx, _, rfl, s12 _ _ hb, rfl, b, d, S, ppl, rfl, IsBk.mono s12 hb0, ok, fun p3 us3 H3 s3 hp3 h3 pu3 => ?_⟩
  have n32 : p3 ≠ p2 := (ne_of_none h2 hp3).symm
  refine ⟨p3, rfl, ⟨us3, SqL.of h3⟩, ?_⟩
  refine forS (A := rPRow) (ds := S.all) src_list (Pv := fun i σ H6 => ∃ lv x4 x5 x6 acc rs, σ = [some (.ref b), some (.str z), some (.int lv), some (.ref p2), x4, x5, x6] ∧ Same H H6 ∧ H6 p2 = some (.lst acc) ∧ Paired (rARow H6) acc rs ∧ acc.length ≤ i ∧ OkL rPRow p3 S.all H6) ?_ ?_ ?_ ?_
  · exact ⟨_, _, _, _, [], [], rfl, s12.trans s3, s3 _ _ h2, .nil, Nat.le_refl _, us3, h3, pu3⟩
  · rintro i σ H6 hi ⟨lv, x4, x5, x6, acc, rs, rfl, s6, h6, p6, l6, o6⟩
    exact o6
  · rintro i y x σ H6 H7 hd ⟨lv, x4, x5, x6, acc, rs, rfl, s6, h6, p6, l6, o6⟩ s7 r
    have hi := lt_of_get hd
    obtain ⟨T0, y1, y2, rfl, hT, rfl, ⟨a5, w1, w2, w3, w4, w5, rfl, h5, rfl, rfl, rfl, rfl, rfl⟩⟩ := r
    refine ⟨T0, _, rfl, hT, rfl, _, _, rfl, _, _, rfl, rfl, ?_⟩
    refine ⟨_, rfl, _, rfl, rfl, _, rfl, ite2 (fun e => ?_) (fun e => ?_)⟩
    · refine ⟨_, rfl, _, rfl, a5, _, 4, _, rfl, rfl, h5, rfl, _, _, rfl, ?_⟩
      generalize hpaid : (if y.2.2.2.2.2 < lv then y.2.2.2.2.2 else lv) = paid
      refine ⟨_, rfl, _, rfl, _, _, rfl, rfl, ?_⟩
      refine ⟨_, rfl, .inl ⟨rfl, _, SqL.of (s7 _ _ h6)⟩, _, rfl, _, rfl, le1, fun p8 H8 hp8 s8 h8 => ⟨a5, p8, _, _, rfl, rfl, s8 _ _ h5, h8, by show 6 ≤ 1000000; decide, fun p9 H9 s9 h9 => ?_⟩⟩
      have s79 := s7.trans (s8.trans s9)
      have h69 := s79 _ _ h6
      refine ⟨p2, acc, _, rfl, rfl, h69, line_lt (by omega), ?_⟩
      have tk : Tk H9 (upd H9 p2 (.lst (acc ++ [.ref p9]))) := Tk.upd h69 fun _ z => by cases z
      refine ⟨_, _, _, _, acc ++ [.ref p9], rs ++ [(y.2, paid)], rfl, (s6.trans s79).mut hnp2, upd_same, pr_snoc (mnL (s79.tk.trans tk) p6) (Mon.go (A := rARow) tk ⟨p9, rfl, h9⟩), by rw [List.length_append, List.length_singleton]; omega, ?_⟩
      obtain ⟨zs, hz, pz⟩ := o6
      exact ⟨zs, by rw [upd_ne n32]; exact s79 _ _ hz, mnL (s79.tk.trans tk) pz⟩
    · exact ⟨_, _, _, _, acc, rs, rfl, s6.trans s7, s7 _ _ h6, mnL s7.tk p6, by omega, okL_mono s7 o6⟩
  · rintro σ H6 ⟨lv, x4, x5, x6, acc, rs, rfl, s6, h6, p6, l6, o6⟩
    exact ⟨_, rfl, _, rfl, le2, fun a H7 ha7 s7 h7 => q a p2 acc rs lv H7 (s6.trans s7) h7 (s7 _ _ h6) (mnL s7.tk p6) (by rw [← pr_len p6]; omega)⟩
abbrev N_Books_all_holders : List Str := ["self", "names", "name", "row"]
theorem sc_Books_all_holders : FnScope N_Books_all_holders ["self"] (defScope (inClass (top 61) 6)) := ⟨rfl, rfl, rfl, by decide +kernel, rfl, by decide +kernel, by decide +kernel⟩
theorem c_Books_all_holders (T : Txt w K mg) : Mt P w K mg base CX0 8 T.cBooks "all_holders" (spHolders T.cBooks) := by
  refine Mt.of T.d_Books_all_holders sc_Books_all_holders (fun _ _ _ _ _ _ us h => by obtain ⟨u0, rfl⟩ := len1 h; rfl) (fun vs H Q E h => by obtain ⟨b, d, S, ppl, rfl, hb, ok, hppl, q⟩ := h; rfl) fun f cdv A outer s H vs Q E hr h => ?_
  obtain ⟨b, d, S, ppl, rfl, hb, ok, hppl, q⟩ := h
  refine ⟨_, PSs.nox ((pss_cons (ps_set (i := 1) sc_Books_all_holders.nd rfl (Or.inl rfl) (pe_callTy (call_dictN rfl) (by rfl) T.f_dict boot_dict (pa_cons (pe_lcS (own := [("name", 2), ("row", 3)]) (by rfl) sc_Books_all_holders.nd (pi_list (pm0 (c_Books_all_rows T) (hr.mono (by decide)) pass0 (pv 0))) (blkOk_by (own := [("name", 2), ("row", 3)]) (N := N_Books_all_holders) (sc := defScope (inClass (top 61) 6)) (by decide +kernel)) (fun _ _ _ _ _ => (pg_tupS (n := 2) rfl (pgs_cons (pg_name (i := 2) sc_Books_all_holders.nd rfl (Or.inl rfl)) (pgs_cons (pg_name (i := 3) sc_Books_all_holders.nd rfl (Or.inl rfl)) pgs_nil)))) (fun _ _ _ _ _ => pts_nil) (fun _ _ _ _ _ => (pe_tupS (pa_cons (pv 2) (pa_cons pe_bl pa_nil))))) pa_nil)))
  (pss_cons (ps_expr (pe_bm PySem.F.plainAttrs_dict PySem.F.slot_dict_update PySem.F.type_dict_update mt_updateD (pv 1) (pa_cons (pe_callTy (call_dictN rfl) (by rfl) T.f_dict boot_dict (pa_cons (pe_lcS (own := [("row", 3)]) (by rfl) sc_Books_all_holders.nd (pi_tup (pe_fldS T.cl_Books T.n_Books_coming (pv 0) rfl)) (blkOk_by (own := [("row", 3)]) (N := N_Books_all_holders) (sc := defScope (inClass (top 61) 6)) (by decide +kernel)) (fun _ _ _ _ _ => (pg_name (i := 3) sc_Books_all_holders.nd rfl (Or.inl rfl))) (fun _ _ _ _ _ => pts_nil) (fun _ _ _ _ _ => (pe_tupS (pa_cons (pe_ix ix_tupS (pv 3) pe_int (fun _ _ => rfl)) (pa_cons pe_bl pa_nil))))) pa_nil)) pa_nil)))
  (pss_one (ps_ret (pe_callB (call_sortedD rfl) (by rfl) T.f_sorted boot_sorted (pa_cons (pv 1) pa_nil))))))), ?_⟩
  have hb0 := hb
  have hal := ok.alen
  have hcl := ok.clen
  obtain ⟨dx, vc, ve, vs, vk, hb, r1, r2, r3, ⟨e, es, rfl, he, pe⟩⟩ := hb
  refine ⟨_, rfl, b, dx, _, rfl, hb, rfl, b, d, S, ppl, rfl, hb0, ok, fun p3 us3 H3 s3 hp3 h3 pu3 => ?_⟩
  refine ⟨p3, rfl, ⟨us3, SqL.of h3⟩, fun D hD => ?_⟩
  refine lcM (A := rPRow) (B := rP rS rB) (ds := S.all) src_list (fun r => (r.1, true)) hD (by omega) (fun H4 s4 => okL_mono s4 ⟨us3, h3, pu3⟩) (fun i y x H4 hd s4 r => ?_) fun acc H4 s4 hD4 pa => ?_
  · obtain ⟨T0, y1, y2, rfl, hT, rfl, _⟩ := r
    exact ⟨T0, _, rfl, hT, rfl, _, _, rfl, _, _, rfl, rfl, rfl, _, rfl, le2, fun p8 H8 hp8 s8 h8 => ⟨s8, p8, _, _, rfl, h8, rfl, rfl⟩⟩
  have s34 := s3.trans s4
  refine ⟨Bool, rB, inferInstance, D, acc, _, rfl, hD4, pa, fun d5 kvs5 H5 hd5 s5 h5 l5 nd5 k5 => ?_⟩
  have s35 := s34.trans s5
  refine ⟨_, rfl, .inr (.inr (.inl ⟨rfl, .inl ⟨_, h5⟩⟩)), _, rfl, b, dx, _, _, rfl, s35 _ _ hb, rfl, e, rfl, ⟨es, SqT.of (s35 _ _ he)⟩, fun D6 hD6 => ?_⟩
  refine lcM (A := rRec) (B := rP rS rB) (ds := S.coming) src_tup (fun r => (r.2.2.2.1, true)) hD6 (by omega) (fun H6 s6 => okT_mono (s35.trans s6).tk ⟨es, he, pe⟩) (fun i y x H6 hd s6 r => ?_) fun acc6 H6 s6 hD6' pa6 => ?_
  · obtain ⟨a1, z1, z2, z3, z4, z5, rfl, g1, rfl, rfl, rfl, rfl, rfl⟩ := r
    exact ⟨rfl, _, rfl, a1, _, 3, _, rfl, rfl, g1, rfl, le2, fun p8 H8 hp8 s8 h8 => ⟨s8, p8, _, _, rfl, h8, rfl, rfl⟩⟩
  refine ⟨Bool, rB, inferInstance, D6, acc6, _, rfl, hD6', pa6, fun d7 kvs7 H7 hd7 s7 h7 l7 nd7 k7 => ?_⟩
  have s57 := s6.trans s7
  have h57 := s57 _ _ h5
  rw [List.length_map] at l5 l7
  refine ⟨d5, d7, kvs5, kvs7, rfl, rfl, h57, h7, ne_of_none (s6 _ _ h5) hd7, by omega, ?_⟩
  obtain ⟨m1, m2⟩ := mergeK_keys kvs7 kvs5 nd5
  have hin : ∀ x ∈ (mergeK kvs5 kvs7).map (·.1), ∃ n ∈ ppl, x = Sum.inr n := fun x hx => by
    rcases m2 x hx with z | z
    · obtain ⟨n, hn, rfl⟩ := k7 x z
      rw [List.map_map] at hn
      obtain ⟨y, hy, rfl⟩ := List.mem_map.mp hn
      exact ⟨_, ok.come y hy, rfl⟩
    · obtain ⟨n, hn, rfl⟩ := k5 x z
      rw [List.map_map] at hn
      obtain ⟨y, hy, rfl⟩ := List.mem_map.mp hn
      exact ⟨_, ok.aname hy, rfl⟩
  obtain ⟨ks, ek⟩ := inr_keys (l := (mergeK kvs5 kvs7).map (·.1)) fun x hx => let ⟨n, _, e⟩ := hin x hx; ⟨n, e⟩
  have hkl : ks.length ≤ ppl.length := by
    have : (ks.map (Sum.inr : Str → Key)).Nodup := by rw [← ek]; exact m1
    refine nodup_le (nodup_of_map this) fun x hx => ?_
    obtain ⟨n, hn, e⟩ := hin (Sum.inr x) (by rw [ek]; exact List.mem_map_of_mem hx)
    injection e with e
    rw [e]
    exact hn
  refine ⟨_, rfl, d5, _, ks, rfl, .inl upd_same, ek, by omega, fun ys p9 hperm _ hp9 => ?_⟩
  have hd5H : H d5 = none := none_back s34 hd5
  have s07 : Same H H7 := s35.trans s57
  have s8 : Same H (upd H7 d5 (.dK (mergeK kvs5 kvs7))) := s07.mut hd5H
  exact q p9 ys _ (s8.trans (Same.new hp9)) (none_back s8 hp9) upd_same (by rw [hperm.length_eq]; omega)
abbrev N_Term_in_hand : List Str := ["self", "holder", "pence"]
theorem sc_Term_in_hand : FnScope N_Term_in_hand ["self"] (defScope (inClass (top 60) 1)) := ⟨rfl, rfl, rfl, by decide +kernel, rfl, by decide +kernel, by decide +kernel⟩
theorem c_Term_in_hand (T : Txt w K mg) : Mt P w K mg base CX0 1 T.cTerm "in_hand" (spInHand T.cTerm) := by
  refine Mt.of T.d_Term_in_hand sc_Term_in_hand (fun _ _ _ _ _ _ us h => by obtain ⟨u0, rfl⟩ := len1 h; rfl) (fun vs H Q E h => by obtain ⟨d, n, t, rfl, ht, hn, q⟩ := h; rfl) fun f cdv A outer s H vs Q E hr h => ?_
  obtain ⟨d, n, t, rfl, ht, hn, q⟩ := h
  refine ⟨_, PSs.nox ((pss_one (ps_ret (pe_op op_sub (pe_op op_add (pe_callB (cr_sumS rfl) (by rfl) T.f_sum boot_sum (pa_cons (pe_lock (pe_lcS (own := [("holder", 1), ("pence", 2)]) (by rfl) sc_Term_in_hand.nd (pi_values (pe_fldS T.cl_Term T.n_Term_told (pv 0) rfl)) (blkOk_by (own := [("holder", 1), ("pence", 2)]) (N := N_Term_in_hand) (sc := defScope (inClass (top 60) 1)) (by decide +kernel)) (fun _ _ _ _ _ => (pg_tupS (n := 2) rfl (pgs_cons (pg_name (i := 1) sc_Term_in_hand.nd rfl (Or.inl rfl)) (pgs_cons (pg_name (i := 2) sc_Term_in_hand.nd rfl (Or.inl rfl)) pgs_nil)))) (fun _ _ _ _ _ => pts_nil) (fun _ _ _ _ _ => (pv 2)))) pa_nil)) (pe_fldS T.cl_Term T.n_Term_came (pv 0) rfl)) (pe_fldS T.cl_Term T.n_Term_went (pv 0) rfl))))), ?_⟩
  obtain ⟨a, dx, z, e, came, went, kvs, rfl, ha, hne, he, hl, hk⟩ := ht
  obtain ⟨ds, pd⟩ := ex_pairs (R := fun (kv : Key × V) (x : Str × Int) => rP rS rI H kv.2 x) fun kv hm => let ⟨x, hx, _⟩ := hk kv hm; ⟨x, hx⟩
  have hae : a ≠ e := ne_of ha he (by intro z; cases z)
  refine ⟨e, .dK kvs, he, True.intro, fun od => ?_⟩
  have tk0 : Tk H (upd H e (.frz od (.dK kvs))) := Tk.upd he fun _ z => by cases z
  refine ⟨_, rfl, a, dx, [("collector", .str z), ("told", .ref e), ("came", .int came), ("went", .int went)], _, rfl, ?_, rfl, e, od, kvs, rfl, upd_same, fun D hD => ?_⟩
  · rw [upd_ne hae]
    exact ha
  refine lcM (A := rP rS rI) (B := rI) (ds := ds) src_vals (fun x => x.2) hD (by rw [← pr_len pd]; omega) (fun H4 s4 => ⟨s4 _ _ upd_same, pr_imp pd fun kv x r => Mon.go (A := rP rS rI) (tk0.trans s4.tk) r⟩) (fun i y x H4 hd s4 r => ?_) fun acc H4 s4 hD4 pa => ?_
  · obtain ⟨T0, y1, y2, rfl, hT, rfl, rfl⟩ := r
    exact ⟨T0, _, rfl, hT, rfl, _, _, rfl, _, _, rfl, rfl, rfl, _, rfl, Same.refl _, rfl⟩
  have hDe : D ≠ e := (ne_of_none upd_same hD).symm
  have hs : Same H (upd H4 e (.dK kvs)) := fun c u hc => by
    by_cases ec : c = e
    · rw [ec] at hc ⊢
      rw [he] at hc
      rw [upd_same, hc]
    · rw [upd_ne ec]
      exact s4 _ _ (by rw [upd_ne ec]; exact hc)
  refine ⟨s4 _ _ upd_same, D, acc, _, rfl, by rw [upd_ne hDe]; exact hD4, mnL (Tk.upd (s4 _ _ upd_same) fun _ z => by cases z) pa, ?_⟩
  refine ⟨_, rfl, a, dx, _, _, rfl, hs _ _ ha, rfl, _, _, rfl, rfl, _, rfl, a, dx, _, _, rfl, hs _ _ ha, rfl, _, _, rfl, rfl, q _ _ hs⟩
end
end K5
set_option maxHeartbeats 4000000
namespace K5
open PySem PySem.Spec PyProof.Rows L2
open K5M (shareOut)
theorem NameOk.str {z : Str} (h : NameOk z) : PyData.strOk z = true := strOk_of fun c hc => by
  have := h.all c hc
  have e : ∀ c ∈ letters.cps.toList, c < 1114112 := by decide +kernel
  exact e c this
theorem at0 {x : V} {l : List V} : atI (x :: l) 0 = some x := atI_nat (j := 0) rfl
/-! ### an answer that may be a bool, a deed's parts -/
def PartIs (l : Str) (v : V) (b : Bool) : Prop := (l = "n" ∧ b = true ∧ ∃ z, v = .str z ∧ NameOk z) ∨ ∃ lo hi i, (l, lo, hi) ∈ boundsTab ∧ v = .int i ∧ b = decide (lo ≤ i ∧ i ≤ hi)
def spNeed (C : Addr) : Sp := fun vs H Q E => ∃ b, vs = [.bl b] ∧ (b = true → Q .non H) ∧ (b = false → E (.ref C) none H)
def spIsPart : Sp := fun vs H Q _ => ∃ l v b, vs = [.str l, v] ∧ PartIs l v b ∧ ∀ H', Same H H' → Q (.bl b) H'
def spForm : Sp := fun vs H Q _ => ∃ a z ls, ∃ ds : List (Str × V × Bool), vs = [.ref a] ∧ H a = some (.tup (.str z :: ds.map (·.2.1))) ∧ PyData.strOk z = true ∧ (z, ls) ∈ partsTab ∧ ls.cps.toList.map sg = ds.map (·.1) ∧ (∀ d ∈ ds, PartIs d.1 d.2.1 d.2.2) ∧ ds.length ≤ 100 ∧
  ∀ H', Same H H' → Q (.bl (ds.all (·.2.2))) H'
theorem parts_ns {K : PySem.W.Frag} {w : World} {mg : Str → Option Value} (T : Txt w K mg) {z ls : Str} (h : (z, ls) ∈ partsTab) : KDct K w T.kP z (.str ls) := by
  obtain ⟨u, e, r⟩ := T.t_PARTS (z, ls) h
  exact ⟨T.eP, T.nP, u, T.k_PARTS.at_, T.k_PARTS.lit, e, r⟩
theorem part_dp {K : PySem.W.Frag} {H : Hp} : ∀ {ds : List (Str × V × Bool)}, (∀ d ∈ ds, PartIs d.1 d.2.1 d.2.2) → ∃ es : List PyData, DpAll K H (ds.map (·.2.1)) es ∧ PyData.canLayAll0 es = true ∧ PyData.depthAll es = 0
  | [], _ => ⟨[], .nil, by simp only [PyData.canLayAll0], by simp only [PyData.depthAll]⟩
  | d :: ds, h => by
    obtain ⟨es, h1, h2, h3⟩ := part_dp (K := K) (H := H) (ds := ds) fun x hx => h x (List.mem_cons_of_mem _ hx)
    have : ∃ e : PyData, Dp K H d.2.1 e ∧ PyData.canLay0 e = true ∧ PyData.depth e = 0 := by
      rcases h d List.mem_cons_self with ⟨_, _, z, e, nz⟩ | ⟨lo, hi, i, _, e, _⟩
      · exact ⟨.str z, by rw [e]; exact .str z, by simp only [PyData.canLay0]; exact nz.str, by simp only [PyData.depth]⟩
      · exact ⟨.int i, by rw [e]; exact .int i, by simp only [PyData.canLay0], by simp only [PyData.depth]⟩
    obtain ⟨e, g1, g2, g3⟩ := this
    exact ⟨e :: es, .cons g1 h1, by simp only [PyData.canLayAll0, g2, h2, Bool.and_self], by simp only [PyData.depthAll, g3, h3]; rfl⟩
def rVB : Rel (V × Bool) := fun _ v x => v = x.1
instance : Mon rVB := ⟨fun _ h => h⟩
theorem vb_pr {H : Hp} : ∀ l : List (V × Bool), Paired (rVB H) (l.map (·.1)) l
  | [] => .nil
  | _ :: l => .cons rfl (vb_pr l)
theorem str_prS {H : Hp} : ∀ l : List Nat, Paired (rS H) (l.map fun c => V.str ⟨#[c]⟩) (l.map sg)
  | [] => .nil
  | _ :: l => .cons rfl (str_prS l)
/-! ### holdings put in place -/
def withHold (c : County) (n : Str) (hs : List Hold) : County := c.map fun p => (p.1, p.2.map fun h => (h.1, h.2.1, if h.1 = n then hs else h.2.2))
theorem withHold_houses (n : Str) (hs : List Hold) : ∀ c : County, allHouses (withHold c n hs) = (allHouses c).map fun h => (h.1, h.2.1, if h.1 = n then hs else h.2.2)
  | [] => rfl
  | p :: c => by
    have e : allHouses (p :: c) = p.2 ++ allHouses c := by simp [allHouses]
    have e2 : allHouses (withHold (p :: c) n hs) = (p.2.map fun h => (h.1, h.2.1, if h.1 = n then hs else h.2.2)) ++ allHouses (withHold c n hs) := by simp [allHouses, withHold]
    rw [e, e2, withHold_houses n hs c, List.map_append]
structure CGood (ppl : List Str) (c : County) : Prop where
  co : CountyOk c
  pos : posC c = true
  hold : ∀ h ∈ allHouses c, ∀ x ∈ h.2.2, x.1 ∈ ppl
structure HsOk (ppl : List Str) (hs : List Hold) : Prop where
  len : hs.length ≤ 12
  all : ∀ x ∈ hs, HoldOk x
  apart : Apart hs
  hold : ∀ x ∈ hs, x.1 ∈ ppl
theorem withHold_ok {ppl : List Str} {c : County} {n : Str} {hs : List Hold} (g : CGood ppl c) (o : HsOk ppl hs) : CGood ppl (withHold c n hs) := by
  have hw : ∀ h ∈ allHouses (withHold c n hs), ∃ y ∈ allHouses c, h = (y.1, y.2.1, if y.1 = n then hs else y.2.2) := fun h hh => by
    rw [withHold_houses] at hh
    obtain ⟨y, hy, rfl⟩ := List.mem_map.mp hh
    exact ⟨y, hy, rfl⟩
  refine ⟨⟨?_, ?_, fun p hp => ?_, ?_, ?_, ?_⟩, ?_, fun h hh x hx => ?_⟩
  · unfold withHold; rw [List.length_map]; exact g.co.lo
  · unfold withHold; rw [List.length_map]; exact g.co.hi
  · unfold withHold at hp
    obtain ⟨q, hq, rfl⟩ := List.mem_map.mp hp
    have oq := g.co.all q hq
    refine ⟨oq.nm, ?_, ?_, fun x hx => ?_⟩
    · show 1 ≤ (q.2.map _).length
      rw [List.length_map]; exact oq.lo
    · show (q.2.map _).length ≤ 20
      rw [List.length_map]; exact oq.hi
    · obtain ⟨y, hy, rfl⟩ := List.mem_map.mp hx
      have oy := oq.all y hy
      by_cases e : y.1 = n
      · refine ⟨oy.nm, oy.lo, oy.hi, ?_, ?_, ?_⟩
        · show (if y.1 = n then hs else y.2.2).length ≤ 12
          rw [if_pos e]; exact o.len
        · show ∀ x ∈ (if y.1 = n then hs else y.2.2), HoldOk x
          rw [if_pos e]; exact o.all
        · show Apart (if y.1 = n then hs else y.2.2)
          rw [if_pos e]; exact o.apart
      · refine ⟨oy.nm, oy.lo, oy.hi, ?_, ?_, ?_⟩
        · show (if y.1 = n then hs else y.2.2).length ≤ 12
          rw [if_neg e]; exact oy.len
        · show ∀ x ∈ (if y.1 = n then hs else y.2.2), HoldOk x
          rw [if_neg e]; exact oy.all
        · show Apart (if y.1 = n then hs else y.2.2)
          rw [if_neg e]; exact oy.apart
  · have e : (withHold c n hs).map (·.1) = c.map (·.1) := by
      unfold withHold
      rw [List.map_map]
      rfl
    rw [e]
    exact g.co.nd
  · rw [withHold_houses, List.length_map]; exact g.co.len
  · rw [withHold_houses, List.map_map]
    exact g.co.hnd
  · have := g.pos
    unfold posC at this ⊢
    rw [withHold_houses, List.any_map]
    exact this
  · obtain ⟨y, hy, rfl⟩ := hw h hh
    have hx : x ∈ (if y.1 = n then hs else y.2.2) := hx
    by_cases e : y.1 = n
    · rw [if_pos e] at hx
      exact o.hold x hx
    · rw [if_neg e] at hx
      exact g.hold y hy x hx
def spWithHold : Sp := fun vs H Q _ => ∃ c v n u hs, vs = [v, .str n, u] ∧ rCounty H v c ∧ CountyOk c ∧ rTL rHold H u hs ∧ ∀ v H', Same H H' → rCounty H' v (withHold c n hs) → Q v H'
def spHouseIn (CB C : Addr) : Sp := fun vs H Q E => ∃ b d S n, vs = [.ref b, .str n] ∧ IsBk CB H b d S ∧ CountyOk S.county ∧
  (∀ v h H', Same H H' → rHouse H' v h → h ∈ allHouses S.county → h.1 = n → Q v H') ∧ (∀ H', Same H H' → E (.ref C) none H')
section
variable {P : Program} {w : World} {K : PySem.W.Frag} {mg : Str → Option Value} {base : Heap}
abbrev N_need : List Str := ["good"]
theorem sc_need : FnScope N_need ["good"] (defScope (top 59)) := ⟨rfl, rfl, rfl, by decide +kernel, rfl, by decide +kernel, by decide +kernel⟩
theorem c_need (T : Txt w K mg) : Cl P w K mg base (L2.CX P w) 1 "need" (spNeed T.eBadDeed) := by
  refine Cl.of T.d_need sc_need (fun _ _ _ _ _ _ us h => by obtain ⟨u0, rfl⟩ := len1 h; rfl) (fun vs H Q E h => by obtain ⟨b, rfl, q, qe⟩ := h; rfl) fun f cdv A outer s H vs Q E hr h => ?_
  obtain ⟨b, rfl, q, qe⟩ := h
  refine ⟨_, (pss_one (ps_if (pt_not (pt_val (pv 0))) (pss_one (ps_raise rfl (takes_of rfl rfl rfl rfl) (pmk_own PySem.F.excBase_ValueError T.x_BadDeed T.g_BadDeed T.kp_BadDeed (raises_own T.b_BadDeed T.t_BadDeed) rfl))) pss_nil)), ?_⟩
  refine ⟨_, rfl, b, rfl, ?_⟩
  cases b with
  | true => exact iteF (q rfl)
  | false => exact iteT (qe rfl)
abbrev N_is_part : List Str := ["letter", "thing", "least", "most"]
theorem sc_is_part : FnScope N_is_part ["letter", "thing"] (defScope (top 68)) := ⟨rfl, rfl, rfl, by decide +kernel, rfl, by decide +kernel, by decide +kernel⟩
theorem c_is_part (T : Txt w K mg) : Cl P w K mg base CX0 2 "is_part" spIsPart := by
  refine Cl.of T.d_is_part sc_is_part (fun _ _ _ _ _ _ us h => by obtain ⟨u0, u1, rfl⟩ := len2 h; rfl) (fun vs H Q E h => by obtain ⟨l, v, b, rfl, h, q⟩ := h; rfl) fun f cdv A outer s H vs Q E hr h => ?_
  obtain ⟨l, v, b, rfl, h, q⟩ := h
  refine ⟨_, PSs.nox ((pss_cons (ps_if (pt_cmpR op_eq (pv 0) pe_str (nomark _)) (pss_one (ps_ret (pc (c_is_name T) (hr.mono (by decide)) pass0 (pa_cons (pv 1) pa_nil)))) pss_nil)
  (pss_cons (ps_asg (pe_ix ix_kdict (C8.pe_gc rfl T.c_BOUNDS) (pv 0) (fun _ _ => rfl)) (pg_tup rfl (pgs_cons (pg_name (i := 2) sc_is_part.nd rfl (Or.inl rfl)) (pgs_cons (pg_name (i := 3) sc_is_part.nd rfl (Or.inl rfl)) pgs_nil))))
  (pss_one (ps_ret (pc (c_is_whole T) (hr.mono (by decide)) pass0 (pa_cons (pv 1) (pa_cons (pv 2) (pa_cons (pv 3) pa_nil))))))))), ?_⟩
  rcases h with ⟨rfl, rfl, z, rfl, nz⟩ | ⟨lo, hi, i, hm, rfl, rfl⟩
  · exact ⟨_, rfl, rfl, true, rfl, iteT ⟨_, rfl, z, rfl, nz, q⟩⟩
  · have hl : l ≠ "n" := by
      have : ∀ p ∈ boundsTab, p.1 ≠ "n" := by decide +kernel
      exact this _ hm
    obtain ⟨a, ha, hs⟩ := T.t_BOUNDS _ hm
    refine ⟨_, rfl, rfl, false, dF (fun e => hl (by injection e)), iteF ?_⟩
    refine ⟨_, rfl, T.kB, l, .ref a, rfl, rfl, ⟨T.eB, T.nB, _, T.k_BOUNDS.at_, T.k_BOUNDS.lit, ha, rfl⟩, a, _, rfl, hs H, rfl, _, _, rfl, _, _, rfl, rfl, ?_⟩
    exact ⟨_, rfl, _, rfl, _, rfl, i, lo, hi, rfl, q _ (Same.refl _)⟩
abbrev N_has_deed_form : List Str := ["thing", "own", "letter", "one"]
theorem sc_has_deed_form : FnScope N_has_deed_form ["thing"] (defScope (top 69)) := ⟨rfl, rfl, rfl, by decide +kernel, rfl, by decide +kernel, by decide +kernel⟩
theorem c_has_deed_form (T : Txt w K mg) : Cl P w K mg base CX0 3 "has_deed_form" spForm := by
  refine Cl.of T.d_has_deed_form sc_has_deed_form (fun _ _ _ _ _ _ us h => by obtain ⟨u0, rfl⟩ := len1 h; rfl) (fun vs H Q E h => by obtain ⟨a, z, ls, ds, rfl, ha, sz, hm, hl, hp, hn, q⟩ := h; rfl) fun f cdv A outer s H vs Q E hr h => ?_
  obtain ⟨a, z, ls, ds, rfl, ha, sz, hm, hl, hp, hn, q⟩ := h
  refine ⟨_, PSs.nox ((pss_cons (ps_if (PW.pt (pw_or (pt_not (pt_val (pe_callB isi_tup (by rfl) T.f_isinstance boot_isinstance (pa_cons (pv 0) (pa_cons (pe_bltn (v := .ty "tuple") (by rfl) T.f_tuple boot_tuple rfl) pa_nil))))) (pw_or (pt_cmpR (op_eqD hr.units) (pv 0) (pe_tupS pa_nil) (nomark _)) (pw_or (pt_not (pt_val (pe_callB isi_str (by rfl) T.f_isinstance boot_isinstance (pa_cons (pe_ix ix_tupS (pv 0) pe_int (fun _ _ => rfl)) (pa_cons (pe_bltn (v := .ty "str") (by rfl) T.f_str boot_str rfl) pa_nil))))) (pw_or1 (pt_cmpR (op_notIn_kd T.k_PARTS) (pe_ix ix_tupS (pv 0) pe_int (fun _ _ => rfl)) (C8.pe_gc rfl T.c_PARTS) rfl)))))) (pss_one (ps_ret pe_bl)) pss_nil)
  (pss_cons (ps_set (i := 1) sc_has_deed_form.nd rfl (Or.inl rfl) (pe_ix ix_kdict (C8.pe_gc rfl T.c_PARTS) (pe_ix ix_tupS (pv 0) pe_int (fun _ _ => rfl)) (fun _ _ => rfl)))
  (pss_one (ps_ret (pe_and (pe_cmpR op_eq (pe_callB call_lenS (by rfl) T.f_len boot_len (pa_cons (pv 0) pa_nil)) (pe_op op_add pe_int (pe_callB call_len_str (by rfl) T.f_len boot_len (pa_cons (pv 1) pa_nil))) (nomark _)) (pe_one (pe_callB (cr_allS rfl) (by rfl) T.f_all boot_all (pa_cons (pe_lcS (own := [("letter", 2), ("one", 3)]) (by rfl) sc_has_deed_form.nd (pi_zipX (by rfl) T.f_zip (pa_cons (pv 1) (pa_cons (pe_slice sl_tupS (pv 0) (po_some pe_int) po_none) pa_nil))) (blkOk_by (own := [("letter", 2), ("one", 3)]) (N := N_has_deed_form) (sc := defScope (top 69)) (by decide +kernel)) (fun _ _ _ _ _ => (pg_tupS (n := 2) rfl (pgs_cons (pg_name (i := 2) sc_has_deed_form.nd rfl (Or.inl rfl)) (pgs_cons (pg_name (i := 3) sc_has_deed_form.nd rfl (Or.inl rfl)) pgs_nil)))) (fun _ _ _ _ _ => pts_nil) (fun _ _ _ _ _ => (pc (c_is_part T) (hr.mono (by decide)) pass0 (pa_cons (pv 2) (pa_cons (pv 3) pa_nil))))) pa_nil))))))))), ?_⟩
  have hlen : ls.cps.toList.length = ds.length := by
    have := congrArg List.length hl
    rwa [List.length_map, List.length_map] at this
  have hls : ls.length ≤ 100 := by
    show ls.cps.size ≤ 100
    rw [← Array.length_toList, hlen]
    exact hn
  refine ⟨_, rfl, a, _, rfl, ha, true, rfl, iteF ?_⟩
  obtain ⟨es, g1, g2, g3⟩ := part_dp (K := K) (H := H) hp
  refine ⟨_, rfl, le0, fun p1 H1 hp1 s1 h1 => ?_⟩
  obtain ⟨es, g1, g2, g3⟩ := part_dp (K := K) (H := H1) hp
  refine ⟨.tuple (.str z :: es), .tuple [], .tup (SqT.of (s1 _ _ ha)) (.cons (.str z) g1), .tup (SqT.of h1) .nil, ?_, by decide +kernel, false, ?_, iteF ?_⟩
  · unfold SeqAt.shaped
    simp only [PyData.canLay0, PyData.canLayAll0, PyData.depth, PyData.depthAll, g2, g3, sz]
    decide
  · simp only [PyData.eqv, PyData.eqvAll]
  have ha1 := s1 _ _ ha
  refine ⟨_, rfl, a, _, 0, _, rfl, rfl, ha1, at0, z, rfl, true, rfl, iteF ?_⟩
  obtain ⟨u, hu, ru⟩ := T.t_PARTS (z, ls) hm
  refine ⟨_, rfl, a, _, 0, _, rfl, rfl, ha1, at0, z, _, rfl, rfl, hu, false, rfl, iteF ?_⟩
  refine ⟨_, rfl, a, _, 0, _, rfl, rfl, ha1, at0, T.kP, z, .str ls, rfl, rfl, parts_ns T hm, ?_⟩
  refine ⟨_, rfl, a, _, rfl, .inr ha1, _, rfl, ls, rfl, line_of (by omega), _, _, rfl, rfl, rfl, true, ?_, iteT ?_⟩
  · refine congrArg V.bl (decide_eq_true (congrArg V.int ?_))
    have : ls.length = ds.length := by
      show ls.cps.size = _
      rw [← Array.length_toList, hlen]
    rw [List.length_cons, List.length_map]
    omega
  refine ⟨_, rfl, _, rfl, 1, rfl, a, _, rfl, ha1, fun p2 H2 s2 h2 => ?_⟩
  rw [show (1 : Int) = ((1 : Nat) : Int) from rfl, cut_drop] at h2
  have h2 : H2 p2 = some (.tup (ds.map (·.2.1))) := h2
  refine ⟨.s, .t, _, _, _, _, rfl, ⟨ls, rfl, rfl⟩, ⟨p2, rfl, SqT.of h2⟩, fun D hD => ?_⟩
  have e2 : ds.map (·.2.1) = (ds.map (·.2)).map (·.1) := by rw [List.map_map]; rfl
  refine lcM (A := rP rS rVB) (B := rB) (ds := (ls.cps.toList.map sg).zip (ds.map (·.2))) src_zip (fun x => x.2.2) hD (by rw [List.length_zip, List.length_map, List.length_map]; omega)
    (fun H4 s4 => ⟨⟨ls, rfl, str_prS _⟩, p2, rfl, _, s4 _ _ h2, by rw [e2]; exact vb_pr _⟩) (fun i d x H4 hd s4 r => ?_) fun acc H4 s4 hD4 pa => ?_
  · obtain ⟨T0, x1, x2, rfl, hT, rfl, rfl⟩ := r
    have hmem := List.mem_of_getElem? hd
    rw [hl, List.zip_map'] at hmem
    obtain ⟨y, hy, rfl⟩ := List.mem_map.mp hmem
    exact ⟨T0, _, rfl, hT, rfl, _, _, rfl, _, _, rfl, rfl, rfl, _, rfl, _, rfl, _, _, _, rfl, hp y hy, fun H5 s5 => ⟨s5, rfl⟩⟩
  · refine ⟨D, acc, _, rfl, hD4, pa, ?_⟩
    have e : ((((ls.cps.toList.map sg).zip (ds.map (·.2))).map fun x => x.2.2).all id) = ds.all (·.2.2) := by
      rw [hl, List.zip_map', List.map_map, List.all_map]
      rfl
    rw [e]
    exact q _ (s1.trans (s2.trans s4))
abbrev N_with_holdings : List Str := ["county", "name", "holdings", "found", "parish", "houses", "own", "one"]
theorem sc_with_holdings : FnScope N_with_holdings ["county", "name", "holdings"] (defScope (top 72)) := ⟨rfl, rfl, rfl, by decide +kernel, rfl, by decide +kernel, by decide +kernel⟩
theorem c_with_holdings (T : Txt w K mg) : Cl P w K mg base CX0 1 "with_holdings" spWithHold := by
  refine Cl.of T.d_with_holdings sc_with_holdings (fun _ _ _ _ _ _ us h => by obtain ⟨u0, u1, u2, rfl⟩ := len3 h; rfl) (fun vs H Q E h => by obtain ⟨c, v, n, u, hs, rfl, rc, ok, ru, q⟩ := h; rfl) fun f cdv A outer s H vs Q E hr h => ?_
  obtain ⟨c, v, n, u, hs, rfl, rc, ok, ru, q⟩ := h
  refine ⟨_, PSs.nox ((pss_cons (ps_set (i := 3) sc_with_holdings.nd rfl (Or.inl rfl) (pe_lstS pa_nil))
  (pss_cons (ps_for PassesOwn.never rfl (pi_tup (pv 0)) (pg_tupS (n := 2) rfl (pgs_cons (pg_name (i := 4) sc_with_holdings.nd rfl (Or.inl rfl)) (pgs_cons (pg_name (i := 5) sc_with_holdings.nd rfl (Or.inl rfl)) pgs_nil)))
  (pss_cons (ps_setLcS (i := 6) (own := [("one", 7)]) rfl sc_with_holdings.nd rfl rfl (sw_true rfl rfl rfl (by decide +kernel)) (pi_tup (pv 5)) (blkOk_by (own := [("one", 7)]) (N := N_with_holdings) (sc := defScope (top 72)) (by decide +kernel)) (fun _ _ _ _ _ => (pg_name (i := 7) sc_with_holdings.nd rfl (Or.inl rfl))) (fun _ _ _ _ _ => pts_nil) (fun _ _ _ _ _ => (pe_tupS (pa_cons (pe_ix ix_tupS (pv 7) pe_int (fun _ _ => rfl)) (pa_cons (pe_ix ix_tupS (pv 7) pe_int (fun _ _ => rfl)) (pa_cons (L2.PE.cl (pe_ifExp (pt_cmpR op_eq (pe_ix ix_tupS (pv 7) pe_int (fun _ _ => rfl)) (pv 1) (nomark _)) (pv 2) (pe_ix ix_tupS (pv 7) pe_int (fun _ _ => rfl)))) pa_nil))))))
  (pss_one (ps_expr (pe_bm PySem.F.plainAttrs_list PySem.F.slot_list_append PySem.F.type_list_append mt_append (pv 3) (pa_cons (pe_tupS (pa_cons (pv 4) (pa_cons (pe_callTy call_tupleS (by rfl) T.f_tuple boot_tuple (pa_cons (pv 6) pa_nil)) pa_nil))) pa_nil))))))
  (pss_one (ps_ret (pe_callTy call_tupleS (by rfl) T.f_tuple boot_tuple (pa_cons (pv 3) pa_nil))))))), ?_⟩
  obtain ⟨a, us, rfl, ha, pu⟩ := rc
  have hul : us.length = c.length := pr_len pu
  have hc := ok.hi
  refine ⟨le0, fun p H1 hp1 s1 h1 => ?_⟩
  refine ⟨_, rfl, a, rfl, ⟨us, SqT.of (s1 _ _ ha)⟩, ?_⟩
  refine forS (A := rParish) (ds := c) src_tup (Pv := fun i σ H3 => ∃ x4 x5 x6 acc, σ = [some (.ref a), some (.str n), some u, some (.ref p), x4, x5, x6, none] ∧ Same H H3 ∧ H3 p = some (.lst acc) ∧ Paired (rParish H3) acc (withHold (c.take i) n hs)) ?_ ?_ ?_ ?_
  · exact ⟨_, _, _, [], rfl, s1, h1, .nil⟩
  · rintro i σ H3 hi ⟨x4, x5, x6, acc, rfl, s3, h3, p3⟩
    exact okT_mono s3.tk ⟨us, ha, pu⟩
  · rintro i d x σ H3 H4 hd ⟨x4, x5, x6, acc, rfl, s3, h3, p3⟩ s4 r
    have okp := ok.all d (List.mem_of_getElem? hd)
    have hdl := okp.hi
    obtain ⟨b, y1, y2, rfl, hb, rfl, b2, vs, rfl, hb2, pv2⟩ := r
    have hvl : vs.length = d.2.length := pr_len pv2
    refine ⟨b, _, rfl, hb, rfl, _, _, rfl, _, _, rfl, rfl, ?_⟩
    refine ⟨_, rfl, b2, rfl, ⟨vs, SqT.of hb2⟩, fun D hD => ?_⟩
    refine lcM (A := rHouse) (B := rHouse) (ds := d.2) src_tup (fun h => (h.1, h.2.1, if h.1 = n then hs else h.2.2)) hD (by omega) (fun H5 s5 => okT_mono s5.tk ⟨vs, hb2, pv2⟩) (fun i e x H5 hd s5 r => ?_) fun acc2 H5 s5 hD5 pa5 => ?_
    · obtain ⟨a1, z1, z2, z3, rfl, g1, rfl, rfl, r3⟩ := r
      have ru5 : rTL rHold H5 u hs := mn (s3.trans (s4.trans s5)) ru
      refine ⟨rfl, _, rfl, a1, _, 0, _, rfl, rfl, g1, rfl, _, rfl, a1, _, 1, _, rfl, rfl, g1, rfl, fun v H6 => H6 = H5 ∧ rTL rHold H5 v (if e.1 = n then hs else e.2.2), ?_, fun v H6 hR => ?_⟩
      · refine ⟨_, rfl, a1, _, 0, _, rfl, rfl, g1, rfl, _, rfl, rfl, _, rfl, ite2 (fun z => ?_) (fun z => ?_)⟩
        · have z : V.str e.1 = V.str n := of_decide_eq_true z
          injection z with z
          exact ⟨_, rfl, rfl, by rw [if_pos z]; exact ru5⟩
        · have z : ¬ e.1 = n := fun y => z (decide_eq_true (by rw [y]))
          exact ⟨_, rfl, a1, _, 2, _, rfl, rfl, g1, rfl, rfl, by rw [if_neg z]; exact r3⟩
      · obtain ⟨rfl, hR⟩ := hR
        exact ⟨le3, fun p8 H8 hp8 s8 h8 => ⟨s8, p8, _, _, _, rfl, h8, rfl, rfl, mn s8 hR⟩⟩
    have s45 := s4.trans s5
    refine ⟨_, rfl, .inl ⟨rfl, _, SqL.of (s45 _ _ h3)⟩, _, rfl, _, rfl, D, acc2, rfl, hD5, fun p6 H6 hp6 s6 h6 => ⟨le2, fun p7 H7 hp7 s7 h7 => ?_⟩⟩
    have s67 := s6.trans s7
    have s47 := s45.trans s67
    have h37 := s47 _ _ h3
    have hal : acc.length ≤ 8 := by
      rw [pr_len p3]
      unfold withHold
      rw [List.length_map, List.length_take]
      omega
    refine ⟨p, acc, _, rfl, rfl, h37, line_lt (by omega), ?_⟩
    have tk : Tk H7 (upd H7 p (.lst (acc ++ [.ref p7]))) := Tk.upd h37 fun _ z => by cases z
    refine ⟨_, _, _, acc ++ [.ref p7], rfl, (s3.trans s47).mut hp1, upd_same, ?_⟩
    rw [take_more hd]
    have e : withHold (c.take i ++ [d]) n hs = withHold (c.take i) n hs ++ [(d.1, d.2.map fun h => (h.1, h.2.1, if h.1 = n then hs else h.2.2))] := by simp [withHold]
    rw [e]
    exact pr_snoc (mnL (s47.tk.trans tk) p3) (Mon.go (A := rParish) tk ⟨p7, _, _, rfl, h7, rfl, p6, acc2, rfl, s7 _ _ h6, mnL s67.tk pa5⟩)
  · rintro σ H3 ⟨x4, x5, x6, acc, rfl, s3, h3, p3⟩
    rw [List.take_length] at p3
    exact ⟨_, rfl, p, acc, rfl, h3, fun p4 H4 hp4 s4 h4 => q _ _ (s3.trans s4) ⟨p4, acc, rfl, h4, mnL s4.tk p3⟩⟩
abbrev N_house_in : List Str := ["books", "name", "found", "house"]
theorem sc_house_in : FnScope N_house_in ["books", "name"] (defScope (top 73)) := ⟨rfl, rfl, rfl, by decide +kernel, rfl, by decide +kernel, by decide +kernel⟩
theorem c_house_in (T : Txt w K mg) : Cl P w K mg base (L2.CX P w) 2 "house_in" (spHouseIn T.cBooks T.eBadDeed) := by
  refine Cl.of T.d_house_in sc_house_in (fun _ _ _ _ _ _ us h => by obtain ⟨u0, u1, rfl⟩ := len2 h; rfl) (fun vs H Q E h => by obtain ⟨b, d, S, n, rfl, hb, ok, q, qe⟩ := h; rfl) fun f cdv A outer s H vs Q E hr h => ?_
  obtain ⟨b, d, S, n, rfl, hb, ok, q, qe⟩ := h
  refine ⟨_, (pss_cons (ps_setLcS (i := 2) (own := [("house", 3)]) rfl sc_house_in.nd rfl rfl (sw_true rfl rfl rfl (by decide +kernel)) (pi_list (pc (c_all_houses T) (hr.mono (by decide)) pass0 (pa_cons (pe_fldS T.cl_Books T.n_Books_of_county (pv 0) rfl) pa_nil))) (blkOk_by (own := [("house", 3)]) (N := N_house_in) (sc := defScope (top 73)) (by decide +kernel)) (fun _ _ _ _ _ => (pg_name (i := 3) sc_house_in.nd rfl (Or.inl rfl))) (fun _ _ _ _ _ => (pts_one (pt_cmpR op_eq (pe_ix ix_tupS (pv 3) pe_int (fun _ _ => rfl)) (pv 1) (nomark _)))) (fun _ _ _ _ _ => (pv 3)))
  (pss_cons (ps_expr (pc (c_need T) (hr.mono (by decide)) (passes_call (takes_of rfl rfl rfl rfl) fun _ _ _ _ h => h) (pa_cons (pe_cmpR (op_neNil hr.units) (pv 2) (pe_lstS pa_nil) (nomark _)) pa_nil)))
  (pss_one (ps_ret (pe_ix ix_listS (pv 2) pe_int (fun _ _ => rfl)))))), ?_⟩
  have hl := ok.len
  have hc := ok.hi
  obtain ⟨dx, vc, ve, vs, vk, hb, r1, r⟩ := hb
  refine ⟨_, rfl, b, dx, _, _, rfl, hb, rfl, vc, S.county, rfl, r1, by omega, by omega, fun p3 us3 H3 s3 hp3 h3 pu3 => ?_⟩
  refine ⟨p3, rfl, ⟨us3, SqL.of h3⟩, fun D hD => ?_⟩
  refine lcS (A := rHouse) (B := rHouse) (ds := allHouses S.county) src_list (fun h => decide (h.1 = n)) (fun h => h) hD (by omega) (fun H5 s5 => okL_mono s5 ⟨us3, h3, pu3⟩) (fun i y x H5 hd s5 r => ?_) fun acc H5 s5 hD5 pa => ?_
  · have rr := r
    obtain ⟨a1, z1, z2, z3, rfl, g1, rfl, rfl, r3⟩ := r
    refine ⟨rfl, _, rfl, a1, _, 0, _, rfl, rfl, g1, rfl, _, rfl, rfl, _, rfl, ite2 (fun z => ?_) (fun z => ?_)⟩
    · have z : V.str y.1 = V.str n := of_decide_eq_true z
      injection z with z
      exact ⟨_, rfl, Same.refl _, decide_eq_true z, rr⟩
    · exact ⟨Same.refl _, decide_eq_false fun e => z (decide_eq_true (by rw [e]))⟩
  rw [List.map_id'] at pa
  have hmem : ∀ x ∈ (allHouses S.county).filter (fun h => decide (h.1 = n)), x ∈ allHouses S.county ∧ x.1 = n := fun x hx => ⟨(List.mem_filter.mp hx).1, of_decide_eq_true (List.mem_filter.mp hx).2⟩
  generalize hF : (allHouses S.county).filter (fun h => decide (h.1 = n)) = F at *
  have s05 := s3.trans s5
  refine ⟨_, rfl, le0, fun p6 H6 hp6 s6 h6 => ?_⟩
  refine ⟨House, rHouse, inferInstance, D, p6, acc, F, rfl, rfl, s6 _ _ hD5, mnL s6.tk pa, fun x hx => ?_, by decide, h6, _, rfl, fun hne => ?_, fun hne => ?_⟩
  · have o := ok.house x (hmem x hx).1
    exact ⟨o.nm.str, True.intro, fun y hy => ⟨(o.all y hy).nm.str, True.intro, True.intro⟩⟩
  · cases F with
    | nil => cases hne
    | cons h F =>
      cases pa with
      | @cons v _ vs _ r t =>
        exact ⟨_, rfl, D, _, 0, v, rfl, rfl, s6 _ _ hD5, at0, q v h H6 (s05.trans s6) (mn s6 r) (hmem h List.mem_cons_self).1 (hmem h List.mem_cons_self).2⟩
  · exact qe _ (s05.trans s6)
end
end K5
set_option maxHeartbeats 4000000
namespace K5
open PySem PySem.Spec PyProof.Rows L2
theorem zip_pw {α : Type} {R : α → α → Prop} {P : α → Prop} (tr : ∀ x y z, P y → R x y → R y z → R x z) : ∀ l : List α, (∀ x ∈ l, P x) → (∀ p ∈ l.zip (l.drop 1), R p.1 p.2) → l.Pairwise R
  | [], _, _ => .nil
  | [x], _, _ => List.pairwise_singleton _ _
  | x :: y :: l, hp, h => by
    have ih := zip_pw tr (y :: l) (fun z hz => hp z (List.mem_cons_of_mem _ hz)) fun p hp2 => h p (List.mem_cons_of_mem _ hp2)
    have hxy : R x y := h (x, y) List.mem_cons_self
    refine List.pairwise_cons.mpr ⟨fun z hz => ?_, ih⟩
    rcases List.mem_cons.mp hz with e | hz
    · rw [e]; exact hxy
    · exact tr x y z (hp y (List.mem_cons_of_mem _ List.mem_cons_self)) hxy ((List.pairwise_cons.mp ih).1 z hz)
theorem pw_zip {α : Type} {R : α → α → Prop} : ∀ l : List α, l.Pairwise R → ∀ p ∈ l.zip (l.drop 1), R p.1 p.2
  | [], _, p, hp => by cases hp
  | [x], _, p, hp => by cases hp
  | x :: y :: l, h, p, hp => by
    rcases List.mem_cons.mp hp with e | hp
    · rw [e]; exact (List.pairwise_cons.mp h).1 y List.mem_cons_self
    · exact pw_zip (y :: l) (List.pairwise_cons.mp h).2 p hp
abbrev Bef (x y : Hold) : Prop := x.2.2 < y.2.1
theorem apart_pw {hs : List Hold} (ok : ∀ x ∈ hs, HoldOk x) (h : Apart hs) : hs.Pairwise Bef := zip_pw (R := Bef) (P := HoldOk) (fun x y z p (h1 : x.2.2 < y.2.1) (h2 : y.2.2 < z.2.1) => Int.lt_trans (Int.lt_of_lt_of_le h1 p.mid) h2) hs ok h
theorem pw_apart {hs : List Hold} (h : hs.Pairwise Bef) : Apart hs := pw_zip hs h
/-! ### one more holding -/
theorem hs_add {ppl : List Str} {h : House} {z : Str} {day : Int} (ok : HouseOk h) (hp : ∀ x ∈ h.2.2, x.1 ∈ ppl) (hl : h.2.2.length < 12) (nz : NameOk z) (hz : z ∈ ppl) (d0 : 1 ≤ day) (d1 : day ≤ 360) (ha : ∀ x ∈ h.2.2, x.2.2 < day) : HsOk ppl (h.2.2 ++ [(z, day, 360)]) := by
  refine ⟨by rw [List.length_append]; exact hl, fun x hx => ?_, pw_apart ?_, fun x hx => ?_⟩
  · rcases List.mem_append.mp hx with y | y
    · exact ok.all x y
    · rw [List.mem_singleton.mp y]; exact ⟨nz, d0, d1, Int.le_refl _⟩
  · rw [List.pairwise_append]
    exact ⟨apart_pw ok.all ok.apart, List.pairwise_singleton _ _, fun x hx y hy => by rw [List.mem_singleton.mp hy]; exact ha x hx⟩
  · rcases List.mem_append.mp hx with y | y
    · exact hp x y
    · rw [List.mem_singleton.mp y]; exact hz
/-! ### one gone -/
def cutH (h0 : Hold) (day : Int) (x : Hold) : List Hold := if x ≠ h0 then [x] else if x.2.1 < day then [(x.1, x.2.1, day - 1)] else []
theorem cut_mem {h0 x y : Hold} {day : Int} (h : y ∈ cutH h0 day x) : y = x ∨ (x = h0 ∧ x.2.1 < day ∧ y = (x.1, x.2.1, day - 1)) := by
  unfold cutH at h
  by_cases e : x ≠ h0
  · rw [if_pos e] at h
    exact .inl (List.mem_singleton.mp h)
  · rw [if_neg e] at h
    by_cases e2 : x.2.1 < day
    · rw [if_pos e2] at h
      exact .inr ⟨Decidable.not_not.mp e, e2, List.mem_singleton.mp h⟩
    · rw [if_neg e2] at h
      cases h
theorem hs_cut {ppl : List Str} {h : House} {h0 : Hold} {day : Int} (ok : HouseOk h) (hp : ∀ x ∈ h.2.2, x.1 ∈ ppl) (d1 : day ≤ 360) (hd : day ≤ h0.2.2) : HsOk ppl ((h.2.2.map (cutH h0 day)).flatten) := by
  have hm : ∀ y ∈ (h.2.2.map (cutH h0 day)).flatten, ∃ x ∈ h.2.2, y ∈ cutH h0 day x := fun y hy => by
    obtain ⟨l, hl, hx⟩ := List.mem_flatten.mp hy
    obtain ⟨x, hx2, rfl⟩ := List.mem_map.mp hl
    exact ⟨x, hx2, hx⟩
  refine ⟨?_, fun y hy => ?_, pw_apart ?_, fun y hy => ?_⟩
  · have := flat_len (f := cutH h0 day) (n := 1) (l := h.2.2) fun x _ => by
      unfold cutH
      split
      · exact Nat.le_refl _
      · split
        · exact Nat.le_refl _
        · exact Nat.zero_le _
    have := ok.len
    omega
  · obtain ⟨x, hx, h2⟩ := hm y hy
    have o := ok.all x hx
    rcases cut_mem h2 with e | ⟨e1, e2, e3⟩
    · rw [e]; exact o
    · rw [e3]
      exact ⟨o.nm, o.lo, by show x.2.1 ≤ day - 1; omega, by show day - 1 ≤ 360; omega⟩
  · have pw := apart_pw ok.all ok.apart
    have bd : ∀ x y, y ∈ cutH h0 day x → y.2.1 = x.2.1 ∧ y.2.2 ≤ x.2.2 := fun x y hy => by
      rcases cut_mem hy with e | ⟨e1, e2, e3⟩
      · rw [e]; exact ⟨rfl, Int.le_refl _⟩
      · rw [e3, e1]
        exact ⟨rfl, by show day - 1 ≤ _; omega⟩
    generalize h.2.2 = l at pw
    induction pw with
    | nil => exact .nil
    | @cons x l hx _ ih =>
      rw [List.map_cons, List.flatten_cons, List.pairwise_append]
      refine ⟨?_, ih, fun y hy z hz => ?_⟩
      · unfold cutH
        split
        · exact List.pairwise_singleton _ _
        · split
          · exact List.pairwise_singleton _ _
          · exact .nil
      · obtain ⟨q, hq, hz2⟩ := List.mem_flatten.mp hz
        obtain ⟨x2, hx2, rfl⟩ := List.mem_map.mp hq
        have b1 := bd x y hy
        have b2 := bd x2 z hz2
        have b3 : x.2.2 < x2.2.1 := hx x2 hx2
        show y.2.2 < z.2.1
        omega
  · obtain ⟨x, hx, h2⟩ := hm y hy
    rcases cut_mem h2 with e | ⟨e1, e2, e3⟩
    · rw [e]; exact hp x hx
    · rw [e3]; exact hp x hx
/-! ### the excused -/
abbrev LtS (x y : Str) : Prop := x.cps.toList < y.cps.toList
theorem exc_pw {l : List Str} (h : ∀ p ∈ l.zip (l.drop 1), p.1.cps.toList < p.2.cps.toList) : l.Pairwise LtS := zip_pw (R := LtS) (P := fun _ => True) (fun _ _ _ _ h1 h2 => List.lt_trans h1 h2) l (fun _ _ => True.intro) h
theorem exc_nodup {l : List Str} (h : l.Pairwise LtS) : l.Nodup := h.imp fun {a b} h e => by
  rw [e] at h
  exact absurd h (List.lt_irrefl _)
theorem cps_inj {x y : Str} (h : x.cps.toList = y.cps.toList) : x = y := by
  cases x; cases y
  simp at h
  rw [h]
theorem rising_strict : ∀ (p : Str) (l : List Str), risingS p l = true → (p :: l).Nodup → ∀ q ∈ (p :: l).zip l, q.1.cps.toList < q.2.cps.toList
  | p, [], _, _, q, hq => by cases hq
  | p, x :: r, h, nd, q, hq => by
    have h : (!ltCps x.cps.toList p.cps.toList && risingS x r) = true := h
    rw [Bool.and_eq_true] at h
    rcases List.mem_cons.mp hq with e | hq
    · rw [e]
      have h1 : ltCps x.cps.toList p.cps.toList = false := by simpa using h.1
      rw [ltCps_eq] at h1
      have h2 : ¬ x.cps.toList < p.cps.toList := of_decide_eq_false h1
      refine Std.lt_of_le_of_ne (List.not_lt.mp h2) fun e => ?_
      rw [List.nodup_cons] at nd
      exact nd.1 (by rw [show p = x from cps_inj e]; exact List.mem_cons_self)
    · exact rising_strict x r h.2 (List.nodup_cons.mp nd).2 q hq
theorem sorted_strict : ∀ l : List Str, sortedS l = true → l.Nodup → ∀ q ∈ l.zip (l.drop 1), q.1.cps.toList < q.2.cps.toList
  | [], _, _, q, hq => by cases hq
  | p :: l, h, nd, q, hq => rising_strict p l h nd q hq
theorem exc_sorted {ex ys : List Str} {z : Str} (ok : ExcOk ex) (nz : NameOk z) (hl : ex.length < 40) (hz : z ∉ ex) (hp : ys.Perm (ex ++ [z])) (hs : sortedS ys = true) : ExcOk ys := by
  have nd : (ex ++ [z]).Nodup := by
    rw [List.nodup_append]
    exact ⟨exc_nodup (exc_pw ok.up), by simp, fun a ha b hb e => hz (by rw [← List.mem_singleton.mp hb, ← e]; exact ha)⟩
  refine ⟨by rw [hp.length_eq, List.length_append]; exact hl, fun n hn => ?_, sorted_strict ys hs (hp.nodup_iff.mpr nd)⟩
  rcases List.mem_append.mp (hp.mem_iff.mp hn) with y | y
  · exact ok.all n y
  · rw [List.mem_singleton.mp y]; exact nz
theorem exc_filter {ex : List Str} (p : Str → Bool) (ok : ExcOk ex) : ExcOk (ex.filter p) :=
  ⟨Nat.le_trans (List.length_filter_le _ _) ok.len, fun n hn => ok.all n (List.mem_filter.mp hn).1, pw_zip _ ((exc_pw ok.up).sublist (List.filter_sublist (p := p)))⟩
end K5
set_option maxHeartbeats 4000000
namespace K5
open PySem PySem.Spec PyProof.Rows L2
theorem BkOk.good {ppl : List Str} {S : Bk} (ok : BkOk ppl S) : CGood ppl S.county := ⟨ok.co, ok.pos, ok.hold⟩
theorem BkOk.cty {ppl : List Str} {S : Bk} {c : County} {e : List Str} (ok : BkOk ppl S) (g : CGood ppl c) (he : ExcOk e) : BkOk ppl { S with county := c, excused := e } :=
  ⟨g.co, g.pos, ok.t0, ok.t1, he, g.hold, ok.v0, ok.v1, ok.y0, ok.y1, ok.d0, ok.d1, ok.old, ok.slen, ok.come, ok.clen⟩
theorem IsBk.tk {CB : Addr} {H H' : Hp} {b d : Addr} {S : Bk} (h : IsBk CB H b d S) (x : Bar b b H H') : Tk H H' := by
  obtain ⟨dx, vc, ve, vs, vk, hb, r⟩ := h
  exact x.tk (fun xs e => by rw [hb] at e; cases e) (fun xs e => by rw [hb] at e; cases e)
theorem IsTerm.bar {CB CT : Addr} {H H' : Hp} {b d0 d : Addr} {S : Bk} {n : Nat} {t : V} (h : IsBk CB H b d0 S) (x : Bar b b H H') (ht : IsTerm CT H d n t) : IsTerm CT H' d n t := by
  have tk := h.tk x
  obtain ⟨dx, vc, ve, vs, vk, hb, r⟩ := h
  obtain ⟨a, dx2, z, e, c, wt, kvs, h1, h2, h3, h4, h5, h6⟩ := ht
  have nab : a ≠ b := fun e => by
    rw [e, hb] at h2
    injection h2 with h2
    injection h2 with _ _ h2
    have := congrArg List.length h2
    cases this
  have neb : e ≠ b := ne_of h4 hb (by intro z; cases z)
  exact ⟨a, dx2, z, e, c, wt, kvs, h1, x _ _ nab nab h2, h3, x _ _ neb neb h4, h5, fun kv hk => let ⟨y, hy, ho⟩ := h6 kv hk; ⟨y, Mon.go tk hy, ho⟩⟩
theorem IsTerms.bar {CB CT : Addr} {H H' : Hp} {b d0 d : Addr} {S : Bk} {n : Nat} (h : IsBk CB H b d0 S) (x : Bar b b H H') (ht : IsTerms CT H d n) : IsTerms CT H' d n := by
  have tk := h.tk x
  have h0 := h
  obtain ⟨dx, vc, ve, vs, vk, hb, r⟩ := h
  obtain ⟨kvs, h1, h2, h3⟩ := ht
  have ndb : d ≠ b := ne_of h1 hb (by intro z; cases z)
  exact ⟨kvs, x _ _ ndb ndb h1, h2, fun kv hk => let ⟨a, ts, e, h4, h5, h6⟩ := h3 kv hk; ⟨a, ts, e, tk _ _ h4, h5, fun t ht => (h6 t ht).bar h0 x⟩⟩
theorem Bar.of {b : Addr} {H H1 : Hp} {o : HO} (s : Same H H1) : Bar b b H (upd H1 b o) := fun a u h1 _ h => by rw [upd_ne h1]; exact s a u h
def spComeIn (CB C : Addr) : Sp := fun vs H Q E => ∃ b d S n z ppl, vs = [.ref b, .str n, .str z] ∧ IsBk CB H b d S ∧ BkOk ppl S ∧ NameOk z ∧ z ∈ ppl ∧
  (∀ H' c', Bar b b H H' → CGood ppl c' → IsBk CB H' b d { S with county := c' } → Q .non H') ∧ (∀ H', Bar b b H H' → E (.ref C) none H')
def spGoOut (CB C : Addr) : Sp := fun vs H Q E => ∃ b d S n ppl, vs = [.ref b, .str n] ∧ IsBk CB H b d S ∧ BkOk ppl S ∧
  (∀ H' c' z, Bar b b H H' → CGood ppl c' → IsBk CB H' b d { S with county := c' } → NameOk z → z ∈ ppl → Q (.str z) H') ∧ (∀ H', Bar b b H H' → E (.ref C) none H')
def spDoDay (CB C : Addr) : Sp := fun vs H Q E => ∃ b d S k t, vs = [.ref b, .ref t] ∧ IsBk CB H b d S ∧ H t = some (.tup [.int k]) ∧
  (∀ H' a, Bar b b H H' → S.day < k → IsBk CB H' b d { S with day := k } → H' a = some (.tup []) → Q (.ref a) H') ∧ (∀ H', Bar b b H H' → E (.ref C) none H')
section
variable {P : Program} {w : World} {K : PySem.W.Frag} {mg : Str → Option Value} {base : Heap}
abbrev N_come_in : List Str := ["books", "name", "holder", "house", "one", "first", "last"]
theorem sc_come_in : FnScope N_come_in ["books", "name", "holder"] (defScope (top 74)) := ⟨rfl, rfl, rfl, by decide +kernel, rfl, by decide +kernel, by decide +kernel⟩
theorem c_come_in (T : Txt w K mg) : Cl P w K mg base (L2.CX P w) 3 "come_in" (spComeIn T.cBooks T.eBadDeed) := by
  refine Cl.of T.d_come_in sc_come_in (fun _ _ _ _ _ _ us h => by obtain ⟨u0, u1, u2, rfl⟩ := len3 h; rfl) (fun vs H Q E h => by obtain ⟨b, d, S, n, z, ppl, rfl, hb, ok, nz, hz, q, qe⟩ := h; rfl) fun f cdv A outer s H vs Q E hr h => ?_
  obtain ⟨b, d, S, n, z, ppl, rfl, hb, ok, nz, hz, q, qe⟩ := h
  refine ⟨_, (pss_cons (ps_set (i := 3) sc_come_in.nd rfl (Or.inl rfl) (pc (c_house_in T) (hr.mono (by decide)) (passes_call (takes_of rfl rfl rfl rfl) fun _ _ _ _ h => h) (pa_cons (pv 0) (pa_cons (pv 1) pa_nil))))
  (pss_cons (ps_expr (pc (c_need T) (hr.mono (by decide)) (passes_call (takes_of rfl rfl rfl rfl) fun _ _ _ _ h => h) (pa_cons (pe_and (pe_cmpR op_lt (pe_callB call_lenS (by rfl) T.f_len boot_len (pa_cons (pe_ix ix_tupS (pv 3) pe_int (fun _ _ => rfl)) pa_nil)) (C8.pe_gc rfl T.c_MOST_HOLDINGS) (nomark _)) (pe_one (pe_callB (cr_allS rfl) (by rfl) T.f_all boot_all (pa_cons (pe_lcS (own := [("one", 4), ("first", 5), ("last", 6)]) (by rfl) sc_come_in.nd (pi_tup (pe_ix ix_tupS (pv 3) pe_int (fun _ _ => rfl))) (blkOk_by (own := [("one", 4), ("first", 5), ("last", 6)]) (N := N_come_in) (sc := defScope (top 74)) (by decide +kernel)) (fun _ _ _ _ _ => (pg_tupS (n := 3) rfl (pgs_cons (pg_name (i := 4) sc_come_in.nd rfl (Or.inl rfl)) (pgs_cons (pg_name (i := 5) sc_come_in.nd rfl (Or.inl rfl)) (pgs_cons (pg_name (i := 6) sc_come_in.nd rfl (Or.inl rfl)) pgs_nil))))) (fun _ _ _ _ _ => pts_nil) (fun _ _ _ _ _ => (pe_cmpR op_lt (pv 6) (pe_fldS T.cl_Books T.n_Books_on_day (pv 0) rfl) (nomark _)))) pa_nil)))) pa_nil)))
  (pss_one (ps_fldS T.cl_Books T.n_Books_of_county (pv 0) (pc (c_with_holdings T) (hr.mono (by decide)) pass0 (pa_cons (pe_fldS T.cl_Books T.n_Books_of_county (pv 0) rfl) (pa_cons (pv 1) (pa_cons (pe_op op_catTS (pe_ix ix_tupS (pv 3) pe_int (fun _ _ => rfl)) (pe_tupS (pa_cons (pe_tupS (pa_cons (pv 2) (pa_cons (pe_fldS T.cl_Books T.n_Books_on_day (pv 0) rfl) (pa_cons (C8.pe_gc rfl T.c_LAST_DAY) pa_nil)))) pa_nil))) pa_nil)))) rfl)))), ?_⟩
  have hb0 := hb
  obtain ⟨dx, vc, ve, vs, vk, hb, r1, r2, r3, r4⟩ := hb
  refine ⟨_, rfl, _, rfl, b, d, S, n, rfl, hb0, ok.co, fun v h H1 s1 r hm hn => ?_, fun H1 s1 => qe _ s1.bar⟩
  have okh := ok.co.house h hm
  obtain ⟨a, x1, x2, x3, rfl, ha, rfl, rfl, b2, vs2, rfl, hb2, pv⟩ := r
  have hvl : vs2.length = h.2.2.length := pr_len pv
  have hl := okh.len
  refine ⟨_, rfl, a, _, 2, _, rfl, rfl, ha, rfl, b2, vs2, rfl, .inr hb2, _, _, rfl, rfl, _, rfl, ite2 (fun c1 => ?_) (fun c1 => ⟨false, rfl, (by intro e; cases e), fun _ => qe _ s1.bar⟩)⟩
  have c1 : h.2.2.length < 12 := by have := of_decide_eq_true c1; omega
  refine ⟨_, rfl, a, _, 2, _, rfl, rfl, ha, rfl, b2, rfl, ⟨vs2, SqT.of hb2⟩, fun D hD => ?_⟩
  refine lcM (A := rHold) (B := rB) (ds := h.2.2) src_tup (fun x => decide (x.2.2 < S.day)) hD (by omega) (fun H2 s2 => okT_mono s2.tk ⟨vs2, hb2, pv⟩) (fun i y x H2 hd s2 r => ?_) fun acc H2 s2 hD2 pa => ?_
  · obtain ⟨a1, z1, z2, z3, rfl, g1, rfl, rfl, rfl⟩ := r
    exact ⟨a1, _, rfl, g1, rfl, _, _, rfl, _, _, rfl, _, _, rfl, rfl, rfl, _, rfl, _, rfl, b, dx, _, _, rfl, (s1.trans s2) _ _ hb, rfl, _, _, rfl, rfl, Same.refl _, rfl⟩
  have s12 := s1.trans s2
  refine ⟨D, acc, _, rfl, hD2, pa, _, rfl, fun c2 => ?_, fun _ => qe _ s12.bar⟩
  have c2 : ∀ x ∈ h.2.2, x.2.2 < S.day := fun x hx => by
    have := List.all_eq_true.mp c2 _ (List.mem_map_of_mem hx)
    exact of_decide_eq_true this
  have g : CGood ppl (withHold S.county n (h.2.2 ++ [(z, S.day, 360)])) := withHold_ok ok.good (hs_add okh (ok.hold h hm) c1 nz hz ok.d0 ok.d1 c2)
  refine ⟨_, rfl, b, dx, _, _, rfl, s12 _ _ hb, rfl, _, rfl, _, rfl, a, _, 2, _, rfl, rfl, s2 _ _ ha, rfl, _, rfl, _, rfl, b, dx, _, _, rfl, s12 _ _ hb, rfl, le3, fun p3 H3 hp3 s3 h3 => ⟨le1, fun p4 H4 hp4 s4 h4 => ?_⟩⟩
  have s24 := s2.trans (s3.trans s4)
  refine ⟨b2, p4, vs2, _, rfl, rfl, s24 _ _ hb2, h4, by rw [hvl]; show h.2.2.length + 1 ≤ 1000000; omega, fun p5 H5 s5 h5 => ?_⟩
  have s25 := s24.trans s5
  have s15 := s1.trans s25
  refine ⟨S.county, vc, n, _, h.2.2 ++ [(z, S.day, 360)], rfl, mn s15 r1, ok.co, ⟨p5, _, rfl, h5, pr_app (mnL s25.tk pv) (.cons ⟨p3, _, _, _, rfl, s5 _ _ (s4 _ _ h3), rfl, rfl, rfl⟩ .nil)⟩, fun v6 H6 s6 r6 => ?_⟩
  have s16 := s15.trans s6
  refine ⟨_, rfl, b, dx, _, rfl, s16 _ _ hb, bk_few, ?_⟩
  have br : Bar b b H (upd H6 b (.ins T.cBooks dx (putF "of_county" v6 (bkF S vc ve vs vk d)))) := Bar.of s16
  have tk6 : Tk H6 (upd H6 b (.ins T.cBooks dx (putF "of_county" v6 (bkF S vc ve vs vk d)))) := Tk.upd (s16 _ _ hb) fun _ z => by cases z
  have tk := s16.tk.trans tk6
  exact q _ _ br g ⟨dx, v6, ve, vs, vk, upd_same, Mon.go (A := rCounty) tk6 r6, Mon.go (A := rTL rS) tk r2, Mon.go (A := rTL rPRow) tk r3, Mon.go (A := rTL rRec) tk r4⟩
abbrev N_go_out : List Str := ["books", "name", "house", "here", "found", "one"]
theorem sc_go_out : FnScope N_go_out ["books", "name"] (defScope (top 75)) := ⟨rfl, rfl, rfl, by decide +kernel, rfl, by decide +kernel, by decide +kernel⟩
theorem c_go_out (T : Txt w K mg) : Cl P w K mg base (L2.CX P w) 3 "go_out" (spGoOut T.cBooks T.eBadDeed) := by
  refine Cl.of T.d_go_out sc_go_out (fun _ _ _ _ _ _ us h => by obtain ⟨u0, u1, rfl⟩ := len2 h; rfl) (fun vs H Q E h => by obtain ⟨b, d, S, n, ppl, rfl, hb, ok, q, qe⟩ := h; rfl) fun f cdv A outer s H vs Q E hr h => ?_
  obtain ⟨b, d, S, n, ppl, rfl, hb, ok, q, qe⟩ := h
  refine ⟨_, (pss_cons (ps_set (i := 2) sc_go_out.nd rfl (Or.inl rfl) (pc (c_house_in T) (hr.mono (by decide)) (passes_call (takes_of rfl rfl rfl rfl) fun _ _ _ _ h => h) (pa_cons (pv 0) (pa_cons (pv 1) pa_nil))))
  (pss_cons (ps_setLcS (i := 3) (own := [("one", 5)]) rfl sc_go_out.nd rfl rfl (sw_true rfl rfl rfl (by decide +kernel)) (pi_tup (pe_ix ix_tupS (pv 2) pe_int (fun _ _ => rfl))) (blkOk_by (own := [("one", 5)]) (N := N_go_out) (sc := defScope (top 75)) (by decide +kernel)) (fun _ _ _ _ _ => (pg_name (i := 5) sc_go_out.nd rfl (Or.inl rfl))) (fun _ _ _ _ _ => (pts_one (pt_chain op_le op_le (pe_ix ix_tupS (pv 5) pe_int (fun _ _ => rfl)) (pe_fldS T.cl_Books T.n_Books_on_day (pv 0) rfl) (pe_ix ix_tupS (pv 5) pe_int (fun _ _ => rfl))))) (fun _ _ _ _ _ => (pv 5)))
  (pss_cons (ps_expr (pc (c_need T) (hr.mono (by decide)) (passes_call (takes_of rfl rfl rfl rfl) fun _ _ _ _ h => h) (pa_cons (pe_cmpR (op_neNil hr.units) (pv 3) (pe_lstS pa_nil) (nomark _)) pa_nil)))
  (pss_cons (ps_set (i := 4) sc_go_out.nd rfl (Or.inl rfl) (pe_lstS pa_nil))
  (pss_cons (ps_for (passes_of rfl) rfl (pi_tup (pe_ix ix_tupS (pv 2) pe_int (fun _ _ => rfl))) (pg_name (i := 5) sc_go_out.nd rfl (Or.inl rfl))
  (pss_one (ps_if (pt_cmpR (op_neT hr.units) (pv 5) (pe_ix ix_listS (pv 3) pe_int (fun _ _ => rfl)) (nomark _)) (pss_one (ps_expr (pe_bm PySem.F.plainAttrs_list PySem.F.slot_list_append PySem.F.type_list_append mt_append (pv 4) (pa_cons (pv 5) pa_nil)))) (pss_one (ps_if (pt_cmpR op_lt (pe_ix ix_tupS (pv 5) pe_int (fun _ _ => rfl)) (pe_fldS T.cl_Books T.n_Books_on_day (pv 0) rfl) (nomark _)) (pss_one (ps_expr (pe_bm PySem.F.plainAttrs_list PySem.F.slot_list_append PySem.F.type_list_append mt_append (pv 4) (pa_cons (pe_tupS (pa_cons (pe_ix ix_tupS (pv 5) pe_int (fun _ _ => rfl)) (pa_cons (pe_ix ix_tupS (pv 5) pe_int (fun _ _ => rfl)) (pa_cons (pe_op op_sub (pe_fldS T.cl_Books T.n_Books_on_day (pv 0) rfl) pe_int) pa_nil)))) pa_nil)))) pss_nil)))))
  (pss_cons (ps_fldS T.cl_Books T.n_Books_of_county (pv 0) (pc (c_with_holdings T) (hr.mono (by decide)) pass0 (pa_cons (pe_fldS T.cl_Books T.n_Books_of_county (pv 0) rfl) (pa_cons (pv 1) (pa_cons (pe_callTy call_tupleS (by rfl) T.f_tuple boot_tuple (pa_cons (pv 4) pa_nil)) pa_nil)))) rfl)
  (pss_one (ps_ret (pe_ix ix_tupS (pe_ix ix_listS (pv 3) pe_int (fun _ _ => rfl)) pe_int (fun _ _ => rfl)))))))))), ?_⟩
  have hb0 := hb
  obtain ⟨dx, vc, ve, vs, vk, hb, r1, r2, r3, r4⟩ := hb
  refine ⟨_, rfl, _, rfl, b, d, S, n, rfl, hb0, ok.co, fun v h H1 s1 r hm hn => ?_, fun H1 s1 => qe _ s1.bar⟩
  have okh := ok.co.house h hm
  obtain ⟨a, x1, x2, x3, rfl, ha, rfl, rfl, b2, vs2, rfl, hb2, pv⟩ := r
  have hvl : vs2.length = h.2.2.length := pr_len pv
  have hl := okh.len
  refine ⟨_, rfl, a, _, 2, _, rfl, rfl, ha, rfl, b2, rfl, ⟨vs2, SqT.of hb2⟩, fun D hD => ?_⟩
  refine lcS (A := rHold) (B := rHold) (ds := h.2.2) src_tup (fun x => decide (x.2.1 ≤ S.day ∧ S.day ≤ x.2.2)) (fun x => x) hD (by omega) (fun H2 s2 => okT_mono s2.tk ⟨vs2, hb2, pv⟩) (fun i y x H2 hd s2 r => ?_) fun acc H2 s2 hD2 pa => ?_
  · have rr := r
    obtain ⟨a1, z1, z2, z3, rfl, g1, rfl, rfl, rfl⟩ := r
    refine ⟨rfl, _, rfl, a1, _, 1, _, rfl, rfl, g1, rfl, _, rfl, b, dx, _, _, rfl, (s1.trans s2) _ _ hb, rfl, _, _, rfl, rfl, _, rfl, ite2 (fun e1 => ?_) (fun e1 => ?_)⟩
    · refine ⟨_, rfl, a1, _, 2, _, rfl, rfl, g1, rfl, _, _, rfl, rfl, _, rfl, ite2 (fun e2 => ?_) (fun e2 => ?_)⟩
      · exact ⟨_, rfl, Same.refl _, decide_eq_true ⟨of_decide_eq_true e1, of_decide_eq_true e2⟩, rr⟩
      · exact ⟨Same.refl _, decide_eq_false fun e => e2 (decide_eq_true e.2)⟩
    · exact ⟨false, rfl, iteF ⟨Same.refl _, decide_eq_false fun e => e1 (decide_eq_true e.1)⟩⟩
  rw [List.map_id'] at pa
  have hmem : ∀ x ∈ h.2.2.filter (fun x => decide (x.2.1 ≤ S.day ∧ S.day ≤ x.2.2)), x ∈ h.2.2 ∧ (x.2.1 ≤ S.day ∧ S.day ≤ x.2.2) := fun x hx => ⟨(List.mem_filter.mp hx).1, of_decide_eq_true (List.mem_filter.mp hx).2⟩
  generalize hF : h.2.2.filter (fun x => decide (x.2.1 ≤ S.day ∧ S.day ≤ x.2.2)) = F at *
  have s12 := s1.trans s2
  have hok : ∀ x ∈ h.2.2, Dat.ok rHold x := fun x hx => ⟨(okh.all x hx).nm.str, True.intro, True.intro⟩
  refine ⟨_, rfl, le0, fun p6 H6 hp6 s6 h6 => ?_⟩
  refine ⟨Hold, rHold, inferInstance, D, p6, acc, F, rfl, rfl, s6 _ _ hD2, mnL s6.tk pa, fun x hx => hok x (hmem x hx).1, by decide, h6, _, rfl, fun hne => ?_, fun hne => qe _ (s12.trans s6).bar⟩
  cases F with
  | nil => cases hne
  | cons h0 F =>
    cases pa with
    | @cons v0 _ vs0 _ rr0 t0 =>
      have m0 := hmem h0 List.mem_cons_self
      refine ⟨le0, fun p7 H7 hp7 s7 h7 => ?_⟩
      have s26 := s6.trans s7
      have s27 := s2.trans s26
      have s17 := s1.trans s27
      have hnp7 : H p7 = none := none_back (s12.trans s6) hp7
      have hD7 := s26 _ _ hD2
      have nD7 : D ≠ p7 := ne_of_none (s6 _ _ hD2) hp7
      refine ⟨_, rfl, a, _, 2, _, rfl, rfl, s27 _ _ ha, rfl, b2, rfl, ⟨vs2, SqT.of (s27 _ _ hb2)⟩, ?_⟩
      refine forS (A := rHold) (ds := h.2.2) src_tup (Pv := fun i σ H8 => ∃ x5 acc8, σ = [some (.ref b), some (.str n), some (.ref a), some (.ref D), some (.ref p7), x5] ∧ Same H H8 ∧ Tk H7 H8 ∧ H8 D = some (.lst (v0 :: vs0)) ∧ H8 p7 = some (.lst acc8) ∧
        Paired (rHold H8) acc8 (((h.2.2.take i).map (cutH h0 S.day)).flatten)) ?_ ?_ ?_ ?_
      · exact ⟨_, [], rfl, s17, Tk.refl _, hD7, h7, .nil⟩
      · rintro i σ H8 hi ⟨x5, acc8, rfl, s8, t8, d8, h8, p8⟩
        exact ⟨vs2, t8 _ _ (s27 _ _ hb2), mnL (s27.tk.trans t8) pv⟩
      · rintro i y x σ H8 H9 hy ⟨x5, acc8, rfl, s8, t8, d8, h8, p8⟩ s9 r
        have s89 := s8.trans s9
        have my := List.mem_of_getElem? hy
        have r0 : rHold H9 v0 h0 := Mon.go (A := rHold) (s26.tk.trans (t8.trans s9.tk)) rr0
        have hlen : acc8.length ≤ 12 := by
          have h1 := flat_take_le (cutH h0 S.day) h.2.2 i
          have h2 := (hs_cut (day := S.day) okh (ok.hold h hm) ok.d1 m0.2.2).len
          rw [pr_len p8]
          omega
        have step : ∀ (v9 : V) (e9 : Hold) (H10 : Hp), Same H9 H10 → rHold H10 v9 e9 → cutH h0 S.day y = [e9] → ∃ x5 acc8, ([some (.ref b), some (.str n), some (.ref a), some (.ref D), some (.ref p7), some x] : L2.St) = [some (.ref b), some (.str n), some (.ref a), some (.ref D), some (.ref p7), x5] ∧ Same H (upd H10 p7 (.lst (acc8 ++ [v9]))) ∧ Tk H7 (upd H10 p7 (.lst (acc8 ++ [v9]))) ∧ (upd H10 p7 (.lst (acc8 ++ [v9]))) D = some (.lst (v0 :: vs0)) ∧ (upd H10 p7 (.lst (acc8 ++ [v9]))) p7 = some (.lst (acc8 ++ [v9])) ∧
            Paired (rHold (upd H10 p7 (.lst (acc8 ++ [v9])))) (acc8 ++ [v9]) (((h.2.2.take (i + 1)).map (cutH h0 S.day)).flatten) ∧ H10 p7 = some (.lst acc8) ∧ acc8.length ≤ 12 := fun v9 e9 H10 s10 r9 ec => by
          have s910 := s9.trans s10
          have h10 := s910 _ _ h8
          have tk : Tk H10 (upd H10 p7 (.lst (acc8 ++ [v9]))) := Tk.upd h10 fun _ z => by cases z
          refine ⟨_, acc8, rfl, (s8.trans s910).mut hnp7, (t8.trans s910.tk).trans tk, by rw [upd_ne nD7]; exact s910 _ _ d8, upd_same, ?_, h10, hlen⟩
          rw [take_more hy, List.map_append, List.flatten_append, List.map_cons, List.map_nil, ec]
          exact pr_app (mnL (s910.tk.trans tk) p8) (.cons (Mon.go (A := rHold) tk r9) .nil)
        have rr := r
        obtain ⟨a1, z1, z2, z3, rfl, g1, rfl, rfl, rfl⟩ := r
        refine ⟨_, rfl, _, rfl, D, _, 0, v0, rfl, rfl, s9 _ _ d8, at0, Hold, rHold, inferInstance, inferInstance, y, h0, rr, r0, hok y my, hok h0 m0.1, by decide, _, rfl, ite2 (fun e1 => ?_) (fun e1 => ?_)⟩
        · have e1 : y ≠ h0 := fun z => by
            have e1 : (!decide (y = h0)) = true := e1
            rw [decide_eq_true z] at e1
            cases e1
          obtain ⟨w5, acc9, hσ, g2, g3, g4, g5, g6, g7, g8⟩ := step (.ref a1) y H9 (Same.refl _) rr (by unfold cutH; rw [if_pos e1])
          exact ⟨_, rfl, .inl ⟨rfl, _, SqL.of g7⟩, _, rfl, p7, acc9, _, rfl, rfl, g7, line_lt (by omega), w5, acc9 ++ [.ref a1], hσ, g2, g3, g4, g5, g6⟩
        · have e1 : ¬ y ≠ h0 := fun z => e1 (by show (!decide (y = h0)) = true; rw [decide_eq_false z]; rfl)
          refine ⟨_, rfl, a1, _, 1, _, rfl, rfl, g1, rfl, _, rfl, b, dx, _, _, rfl, s89 _ _ hb, rfl, _, _, rfl, rfl, _, rfl, ite2 (fun e2 => ?_) (fun e2 => ?_)⟩
          · have e2 : y.2.1 < S.day := of_decide_eq_true e2
            refine ⟨_, rfl, .inl ⟨rfl, _, SqL.of (s9 _ _ h8)⟩, _, rfl, a1, _, 0, _, rfl, rfl, g1, rfl, _, rfl, a1, _, 1, _, rfl, rfl, g1, rfl, _, rfl, b, dx, _, _, rfl, s89 _ _ hb, rfl, _, _, rfl, rfl, le3, fun p10 H10 hp10 s10 h10 => ?_⟩
            obtain ⟨w5, acc9, hσ, g2, g3, g4, g5, g6, g7, g8⟩ := step (.ref p10) (y.1, y.2.1, S.day - 1) H10 s10 ⟨p10, _, _, _, rfl, h10, rfl, rfl, rfl⟩ (by unfold cutH; rw [if_neg e1, if_pos e2])
            exact ⟨p7, acc9, _, rfl, rfl, g7, line_lt (by omega), w5, acc9 ++ [.ref p10], hσ, g2, g3, g4, g5, g6⟩
          · have e2 : ¬ y.2.1 < S.day := fun z => e2 (decide_eq_true z)
            refine ⟨_, acc8, rfl, s89, t8.trans s9.tk, s9 _ _ d8, s9 _ _ h8, ?_⟩
            have ec : cutH h0 S.day y = [] := by unfold cutH; rw [if_neg e1, if_neg e2]
            rw [take_more hy, List.map_append, List.flatten_append, List.map_cons, List.map_nil, ec]
            simpa using mnL s9.tk p8
      · rintro σ H8 ⟨x5, acc8, rfl, s8, t8, d8, h8, p8⟩
        rw [List.take_length] at p8
        refine ⟨_, rfl, b, dx, _, _, rfl, s8 _ _ hb, rfl, _, rfl, _, rfl, p7, acc8, rfl, h8, fun p9 H9 hp9 s9 h9 => ?_⟩
        have g : CGood ppl (withHold S.county n ((h.2.2.map (cutH h0 S.day)).flatten)) := withHold_ok ok.good (hs_cut okh (ok.hold h hm) ok.d1 m0.2.2)
        have s89 := s8.trans s9
        refine ⟨S.county, vc, n, _, _, rfl, mn s89 r1, ok.co, ⟨p9, _, rfl, h9, mnL s9.tk p8⟩, fun v10 H10 s10 r10 => ?_⟩
        have s810 := s89.trans s10
        refine ⟨_, rfl, b, dx, _, rfl, s810 _ _ hb, bk_few, ?_⟩
        have br : Bar b b H (upd H10 b (.ins T.cBooks dx (putF "of_county" v10 (bkF S vc ve vs vk d)))) := Bar.of s810
        have tk6 : Tk H10 (upd H10 b (.ins T.cBooks dx (putF "of_county" v10 (bkF S vc ve vs vk d)))) := Tk.upd (s810 _ _ hb) fun _ z => by cases z
        have tk := s810.tk.trans tk6
        have nDb : D ≠ b := ne_of (s9 _ _ d8) (s89 _ _ hb) (by intro z; cases z)
        have r0 := Mon.go (A := rHold) (s26.tk.trans (t8.trans ((s9.trans s10).tk.trans tk6))) rr0
        obtain ⟨a0, z1, z2, z3, rfl, g0, rfl, rfl, rfl⟩ := r0
        refine ⟨_, rfl, D, _, 0, _, rfl, rfl, by rw [upd_ne nDb]; exact s10 _ _ (s9 _ _ d8), at0, a0, _, 0, _, rfl, rfl, g0, rfl, ?_⟩
        exact q _ _ _ br g ⟨dx, v10, ve, vs, vk, upd_same, Mon.go (A := rCounty) tk6 r10, Mon.go (A := rTL rS) tk r2, Mon.go (A := rTL rPRow) tk r3, Mon.go (A := rTL rRec) tk r4⟩ (okh.all h0 m0.1).nm (ok.hold h hm h0 m0.1)
abbrev N_do_day : List Str := ["books", "parts"]
theorem sc_do_day : FnScope N_do_day ["books", "parts"] (defScope (top 76)) := ⟨rfl, rfl, rfl, by decide +kernel, rfl, by decide +kernel, by decide +kernel⟩
theorem c_do_day (T : Txt w K mg) : Cl P w K mg base (L2.CX P w) 2 "do_day" (spDoDay T.cBooks T.eBadDeed) := by
  refine Cl.of T.d_do_day sc_do_day (fun _ _ _ _ _ _ us h => by obtain ⟨u0, u1, rfl⟩ := len2 h; rfl) (fun vs H Q E h => by obtain ⟨b, d, S, k, t, rfl, hb, ht, q, qe⟩ := h; rfl) fun f cdv A outer s H vs Q E hr h => ?_
  obtain ⟨b, d, S, k, t, rfl, hb, ht, q, qe⟩ := h
  refine ⟨_, (pss_cons (ps_expr (pc (c_need T) (hr.mono (by decide)) (passes_call (takes_of rfl rfl rfl rfl) fun _ _ _ _ h => h) (pa_cons (pe_cmpR op_gt (pe_ix ix_tupS (pv 1) pe_int (fun _ _ => rfl)) (pe_fldS T.cl_Books T.n_Books_on_day (pv 0) rfl) (nomark _)) pa_nil)))
  (pss_cons (ps_fldS T.cl_Books T.n_Books_on_day (pv 0) (pe_ix ix_tupS (pv 1) pe_int (fun _ _ => rfl)) rfl)
  (pss_one (ps_ret (pe_tupS pa_nil))))), ?_⟩
  obtain ⟨dx, vc, ve, vs, vk, hb, r1, r2, r3, r4⟩ := hb
  refine ⟨_, rfl, t, _, 0, _, rfl, rfl, ht, rfl, _, rfl, b, dx, _, _, rfl, hb, rfl, _, _, rfl, rfl, _, rfl, fun c => ?_, fun _ => qe _ Bar.refl⟩
  refine ⟨_, rfl, t, _, 0, _, rfl, rfl, ht, rfl, _, rfl, b, dx, _, rfl, hb, bk_few, le0, fun p1 H1 hp1 s1 h1 => ?_⟩
  have tk6 : Tk H (upd H b (.ins T.cBooks dx (putF "on_day" (.int k) (bkF S vc ve vs vk d)))) := Tk.upd hb fun _ z => by cases z
  have tk := tk6.trans s1.tk
  exact q _ _ (Bar.trans Bar.put s1.bar) (of_decide_eq_true c) ⟨dx, vc, ve, vs, vk, s1 _ _ upd_same, Mon.go (A := rCounty) tk r1, Mon.go (A := rTL rS) tk r2, Mon.go (A := rTL rPRow) tk r3, Mon.go (A := rTL rRec) tk r4⟩ h1
end
end K5
set_option maxHeartbeats 4000000
namespace K5
open PySem PySem.Spec PyProof.Rows L2
theorem atI_int {α : Type} {l : List α} {k : Int} {x : α} (h0 : 0 ≤ k) (h : l[k.toNat]? = some x) : atI l k = some x := by
  rw [← Int.toNat_of_nonneg h0]
  exact atI_nat h
theorem IsTerm.le {CT : Addr} {H : Hp} {d : Addr} {n m : Nat} {t : V} (hnm : n ≤ m) (h : IsTerm CT H d n t) : IsTerm CT H d m t := by
  obtain ⟨a, dx, z, e, c, wt, kvs, h1, h2, h3, h4, h5, h6⟩ := h
  exact ⟨a, dx, z, e, c, wt, kvs, h1, h2, h3, h4, Nat.le_trans h5 hnm, h6⟩
theorem IsTerms.le {CT : Addr} {H : Hp} {d : Addr} {n m : Nat} (hnm : n ≤ m) (h : IsTerms CT H d n) : IsTerms CT H d m := by
  obtain ⟨kvs, h1, h2, h3⟩ := h
  exact ⟨kvs, h1, Nat.le_trans h2 hnm, fun kv hk => let ⟨a, ts, e, h4, h5, h6⟩ := h3 kv hk; ⟨a, ts, e, h4, Nat.le_trans h5 (by omega), fun t ht => (h6 t ht).le hnm⟩⟩
theorem IsTerm.barD {CT : Addr} {H H' : Hp} {d : Addr} {n : Nat} {t : V} {kvs0 : List (Key × V)} (hd : H d = some (.dK kvs0)) (x : Bar d d H H') (ht : IsTerm CT H d n t) : IsTerm CT H' d n t := by
  obtain ⟨a, dx2, z, e, c, wt, kvs, h1, h2, h3, h4, h5, h6⟩ := ht
  have tk : Tk H H' := x.tk (fun xs e => by rw [hd] at e; cases e) (fun xs e => by rw [hd] at e; cases e)
  have nad : a ≠ d := ne_of h2 hd (by intro z; cases z)
  exact ⟨a, dx2, z, e, c, wt, kvs, h1, x _ _ nad nad h2, h3, x _ _ h3 h3 h4, h5, fun kv hk => let ⟨y, hy, ho⟩ := h6 kv hk; ⟨y, Mon.go tk hy, ho⟩⟩
theorem IsBk.barD {CB : Addr} {H H' : Hp} {b d : Addr} {S : Bk} {kvs0 : List (Key × V)} (hd : H d = some (.dK kvs0)) (x : Bar d d H H') (h : IsBk CB H b d S) : IsBk CB H' b d S := by
  obtain ⟨dx, vc, ve, vs, vk, h1, h2, h3, h4, h5⟩ := h
  have tk : Tk H H' := x.tk (fun xs e => by rw [hd] at e; cases e) (fun xs e => by rw [hd] at e; cases e)
  have nbd : b ≠ d := ne_of h1 hd (by intro z; cases z)
  exact ⟨dx, vc, ve, vs, vk, x _ _ nbd nbd h1, Mon.go tk h2, Mon.go tk h3, Mon.go tk h4, Mon.go tk h5⟩
def HasTerm (H : Hp) (d : Addr) (z : Str) (k : Int) : Prop := ∃ kvs a ts, H d = some (.dK kvs) ∧ valV kvs (Sum.inr z) = some (.ref a) ∧ H a = some (.tup ts) ∧ 0 ≤ k ∧ k.toNat < ts.length
theorem HasTerm.mono {H H' : Hp} {d : Addr} {z : Str} {k : Int} (s : Same H H') (h : HasTerm H d z k) : HasTerm H' d z k := by
  obtain ⟨kvs, a, ts, h1, h2, h3, h4, h5⟩ := h
  exact ⟨kvs, a, ts, s _ _ h1, h2, s _ _ h3, h4, h5⟩
def spTermOf (CB CT C : Addr) : Sp := fun vs H Q E => ∃ b d S n z k, vs = [.ref b, .str z, .int k] ∧ 0 ≤ k ∧ IsBk CB H b d S ∧ IsTerms CT H d n ∧
  (∀ t H', Same H H' → HasTerm H' d z k → IsTerm CT H' d n t → Q t H') ∧ (∀ H', Same H H' → E (.ref C) none H')
def spWithTerm (CB CT : Addr) : Sp := fun vs H Q _ => ∃ b d S n m z k t, vs = [.ref b, .str z, .int k, t] ∧ IsBk CB H b d S ∧ IsTerms CT H d n ∧ HasTerm H d z k ∧ n ≤ m ∧ m ≤ 1000 ∧ IsTerm CT H d m t ∧
  (∀ H', Bar d d H H' → IsBk CB H' b d S → IsTerms CT H' d m → Q .non H')
def PK (ppl : List Str) (w : Str) (ps : List V) : Prop := (w = "come" ∧ ∃ n z, ps = [.str n, .str z] ∧ NameOk z ∧ z ∈ ppl) ∨ (w = "go" ∧ ∃ n, ps = [.str n]) ∨ (w = "move" ∧ ∃ n m, ps = [.str n, .str m]) ∨
  (w = "excuse" ∧ ∃ z, ps = [.str z] ∧ NameOk z) ∨ (w = "charge" ∧ ∃ z, ps = [.str z])
def spDoPeople (CB C : Addr) : Sp := fun vs H Q E => ∃ b d S w pt ppl ps, vs = [.ref b, .str w, .ref pt] ∧ IsBk CB H b d S ∧ BkOk ppl S ∧ H pt = some (.tup ps) ∧ PK ppl w ps ∧
  (∀ H' c' e' a, Bar b b H H' → CGood ppl c' → ExcOk e' → IsBk CB H' b d { S with county := c', excused := e' } → H' a = some (.tup []) → Q (.ref a) H') ∧ (∀ H', Bar b b H H' → E (.ref C) none H')
def spDoTerm (CB CT C : Addr) : Sp := fun vs H Q E => ∃ b d S n z y pt, vs = [.ref b, .ref pt] ∧ IsBk CB H b d S ∧ CountyOk S.county ∧ IsTerms CT H d n ∧ n + 1 ≤ 1000 ∧ H pt = some (.tup [.str z, .str y]) ∧
  (∀ H' a, Bar d d H H' → IsBk CB H' b d S → IsTerms CT H' d (n + 1) → H' a = some (.tup []) → Q (.ref a) H') ∧ (∀ H', Bar d d H H' → ¬ (z ∈ S.county.map (·.1) ∧ n < 20) → E (.ref C) none H')
section
variable {P : Program} {w : World} {K : PySem.W.Frag} {mg : Str → Option Value} {base : Heap}
abbrev N_Books_term_of : List Str := ["self", "parish", "number"]
theorem sc_Books_term_of : FnScope N_Books_term_of ["self", "parish", "number"] (defScope (inClass (top 61) 7)) := ⟨rfl, rfl, rfl, by decide +kernel, rfl, by decide +kernel, by decide +kernel⟩
theorem c_Books_term_of (T : Txt w K mg) : Mt P w K mg base (L2.CX P w) 2 T.cBooks "term_of" (spTermOf T.cBooks T.cTerm T.eBadDeed) := by
  refine Mt.of T.d_Books_term_of sc_Books_term_of (fun _ _ _ _ _ _ us h => by obtain ⟨u0, u1, u2, rfl⟩ := len3 h; rfl) (fun vs H Q E h => by obtain ⟨b, d, S, n, z, k, rfl, h0, hb, ht, q, qe⟩ := h; rfl) fun f cdv A outer s H vs Q E hr h => ?_
  obtain ⟨b, d, S, n, z, k, rfl, h0, hb, ht, q, qe⟩ := h
  refine ⟨_, (pss_cons (ps_expr (pc (c_need T) (hr.mono (by decide)) (passes_call (takes_of rfl rfl rfl rfl) fun _ _ _ _ h => h) (pa_cons (pe_cmpR op_lt (pv 2) (pe_callB call_lenS (by rfl) T.f_len boot_len (pa_cons (pe_dget2 (hu_of hr) (pe_fldS T.cl_Books T.n_Books_by_parish (pv 0) rfl) (pv 1) (pe_tupS pa_nil) ⟨rfl, rfl, rfl, rfl⟩) pa_nil)) (nomark _)) pa_nil)))
  (pss_one (ps_ret (pe_ix ix_tupS (pe_dget (hu_of hr) (pe_fldS T.cl_Books T.n_Books_by_parish (pv 0) rfl) (pv 1) (fun _ _ => rfl)) (pv 2) (fun _ _ => rfl))))), ?_⟩
  have ht0 := ht
  obtain ⟨dx, vc, ve, vs, vk, hb, r⟩ := hb
  obtain ⟨kvs, hd, hl, hk⟩ := ht
  refine ⟨_, rfl, _, rfl, b, dx, _, _, rfl, hb, rfl, d, rfl, .inl ⟨kvs, .inl hd⟩, _, rfl, le0, fun p1 H1 hp1 s1 h1 => ⟨_, DGet.k (k := Sum.inr z) (s1 _ _ hd), ?_⟩⟩
  have hd1 := s1 _ _ hd
  cases hv : valV kvs (Sum.inr z) with
  | none =>
    refine ⟨p1, [], rfl, .inr h1, _, _, rfl, rfl, _, rfl, fun c => ?_, fun _ => qe _ s1⟩
    have c : k < (0 : Nat) := of_decide_eq_true c
    omega
  | some v =>
    obtain ⟨kv, hm, rfl⟩ := valV_mem hv
    obtain ⟨a, ts, ea, ha, hts, htt⟩ := hk kv hm
    rw [ea] at hv
    have ha1 := s1 _ _ ha
    refine ⟨a, ts, congrArg (fun x => [x]) ea, .inr ha1, _, _, rfl, rfl, _, rfl, fun c => ?_, fun _ => qe _ s1⟩
    have c : k < (ts.length : Nat) := of_decide_eq_true c
    have hlt : k.toNat < ts.length := by omega
    have hg := DGet.k (k := Sum.inr z) hd1
    rw [hv] at hg
    refine ⟨_, rfl, b, dx, _, _, rfl, s1 _ _ hb, rfl, _, rfl, d, _, rfl, hg, _, rfl, a, ts, k, ts[k.toNat], rfl, rfl, ha1, atI_int h0 (List.getElem?_eq_getElem hlt), ?_⟩
    exact q _ _ s1 ⟨kvs, a, ts, hd1, hv, ha1, h0, hlt⟩ ((htt _ (List.getElem_mem hlt)).mono s1)
abbrev N_Books_with_term : List Str := ["self", "parish", "number", "term", "terms"]
theorem sc_Books_with_term : FnScope N_Books_with_term ["self", "parish", "number", "term"] (defScope (inClass (top 61) 8)) := ⟨rfl, rfl, rfl, by decide +kernel, rfl, by decide +kernel, by decide +kernel⟩
theorem c_Books_with_term (T : Txt w K mg) : Mt P w K mg base CX0 2 T.cBooks "with_term" (spWithTerm T.cBooks T.cTerm) := by
  refine Mt.of T.d_Books_with_term sc_Books_with_term (fun _ _ _ _ _ _ us h => by obtain ⟨u0, u1, u2, u3, rfl⟩ := len4 h; rfl) (fun vs H Q E h => by obtain ⟨b, d, S, n, m, z, k, t, rfl, hb, ht, hh, hnm, hm, hT, q⟩ := h; rfl) fun f cdv A outer s H vs Q E hr h => ?_
  obtain ⟨b, d, S, n, m, z, k, t, rfl, hb, ht, hh, hnm, hm, hT, q⟩ := h
  refine ⟨_, PSs.nox ((pss_cons (ps_set (i := 4) sc_Books_with_term.nd rfl (Or.inl rfl) (pe_dget (hu_of hr) (pe_fldS T.cl_Books T.n_Books_by_parish (pv 0) rfl) (pv 1) (fun _ _ => rfl)))
  (pss_one (ps_dput (hu_of hr) (pe_fldS T.cl_Books T.n_Books_by_parish (pv 0) rfl) (pv 1) (pe_op op_catTS (pe_op op_catTS (pe_slice sl_tupS (pv 4) po_none (po_some (pv 2))) (pe_tupS (pa_cons (pv 3) pa_nil))) (pe_slice sl_tupS (pv 4) (po_some (pe_op op_add (pv 2) pe_int)) po_none)) rfl)))), ?_⟩
  have hb0 := hb
  obtain ⟨dx, vc, ve, vs, vk, hb, r⟩ := hb
  obtain ⟨kvs, hd, hl, hk⟩ := ht
  obtain ⟨kvs2, a, ts, hd2, hv, ha, h0, hlt⟩ := hh
  rw [hd] at hd2
  injection hd2 with hd2
  injection hd2 with hd2
  subst hd2
  have hg := DGet.k (k := Sum.inr z) hd
  rw [hv] at hg
  obtain ⟨kv0, hm0, e0⟩ := valV_mem hv
  obtain ⟨a0, ts0, ea0, ha0, hts0, htt0⟩ := hk kv0 hm0
  rw [e0] at ea0
  injection ea0 with ea0
  subst ea0
  rw [ha] at ha0
  injection ha0 with ha0
  injection ha0 with ha0
  subst ha0
  refine ⟨_, rfl, b, dx, _, _, rfl, hb, rfl, _, rfl, d, _, rfl, hg, ?_⟩
  refine ⟨_, rfl, _, rfl, k, rfl, a, ts, rfl, ha, fun p1 H1 s1 h1 => ?_⟩
  refine ⟨_, rfl, le1, fun p2 H2 hp2 s2 h2 => ⟨p1, p2, _, _, rfl, rfl, s2 _ _ h1, h2, ?_, fun p3 H3 s3 h3 => ?_⟩⟩
  · have := cutV_length ts none (some k)
    show _ + 1 ≤ 1000000
    omega
  have s13 := s1.trans (s2.trans s3)
  refine ⟨_, rfl, _, rfl, _, _, rfl, rfl, _, rfl, a, ts, rfl, s13 _ _ ha, fun p4 H4 s4 h4 => ?_⟩
  rw [show k + 1 = ((k.toNat + 1 : Nat) : Int) by omega, cut_drop] at h4
  rw [show k = ((k.toNat : Nat) : Int) by omega, cut_take] at h3
  refine ⟨p3, p4, _, _, rfl, rfl, s4 _ _ h3, h4, ?_, fun p5 H5 s5 h5 => ?_⟩
  · rw [List.length_append, List.length_take, List.length_drop]
    show _ + 1 + _ ≤ 1000000
    omega
  have s15 := s13.trans (s4.trans s5)
  have hd5 := s15 _ _ hd
  refine ⟨_, rfl, b, dx, _, _, rfl, s15 _ _ hb, rfl, _, rfl, d, _, rfl, DPut.k (k := Sum.inr z) hd5 (line_lt (by omega)), ?_⟩
  have br : Bar d d H5 (upd H5 d (.dK (putK kvs (Sum.inr z) (.ref p5)))) := Bar.put
  have br0 : Bar d d H (upd H5 d (.dK (putK kvs (Sum.inr z) (.ref p5)))) := Bar.trans s15.bar br
  refine q _ br0 ((hb0.mono s15).barD hd5 br) ⟨_, upd_same, by rw [putK_old hv]; omega, fun kv hkv => ?_⟩
  have tkd : Tk H5 (upd H5 d (.dK (putK kvs (Sum.inr z) (.ref p5)))) := Tk.upd hd5 fun _ z => by cases z
  rcases putK_mem hkv with y | y
  · obtain ⟨a1, ts1, e1, g1, g2, g3⟩ := hk kv y
    exact ⟨a1, ts1, e1, tkd _ _ (s15 _ _ g1), Nat.le_trans g2 (by omega), fun t' ht' => (((g3 t' ht').mono s15).barD hd5 br).le hnm⟩
  · refine ⟨p5, _, y, tkd _ _ h5, ?_, fun t' ht' => ?_⟩
    · rw [List.length_append, List.length_append, List.length_take, List.length_drop]
      show _ + 1 + _ ≤ min 20 m
      omega
    · rcases List.mem_append.mp ht' with u | u
      · rcases List.mem_append.mp u with u | u
        · exact (((htt0 t' (List.mem_of_mem_take u)).mono s15).barD hd5 br).le hnm
        · rw [List.mem_singleton.mp u]
          exact (hT.mono s15).barD hd5 br
      · exact (((htt0 t' (List.mem_of_mem_drop u)).mono s15).barD hd5 br).le hnm
abbrev N_do_people : List Str := ["books", "word", "parts", "name"]
theorem sc_do_people : FnScope N_do_people ["books", "word", "parts"] (defScope (top 77)) := ⟨rfl, rfl, rfl, by decide +kernel, rfl, by decide +kernel, by decide +kernel⟩
theorem c_do_people (T : Txt w K mg) : Cl P w K mg base (L2.CX P w) 4 "do_people" (spDoPeople T.cBooks T.eBadDeed) := by
  refine Cl.of T.d_do_people sc_do_people (fun _ _ _ _ _ _ us h => by obtain ⟨u0, u1, u2, rfl⟩ := len3 h; rfl) (fun vs H Q E h => by obtain ⟨b, d, S, wd, pt, ppl, ps, rfl, hb, ok, hpt, hpk, q, qe⟩ := h; rfl) fun f cdv A outer s H vs Q E hr h => ?_
  obtain ⟨b, d, S, wd, pt, ppl, ps, rfl, hb, ok, hpt, hpk, q, qe⟩ := h
  refine ⟨_, (pss_cons (ps_if (pt_cmpR op_eq (pv 1) pe_str (nomark _)) (pss_one (ps_expr (pc (c_come_in T) (hr.mono (by decide)) (passes_call (takes_of rfl rfl rfl rfl) fun _ _ _ _ h => h) (pa_cons (pv 0) (pa_cons (pe_ix ix_tupS (pv 2) pe_int (fun _ _ => rfl)) (pa_cons (pe_ix ix_tupS (pv 2) pe_int (fun _ _ => rfl)) pa_nil)))))) (pss_one (ps_if (pt_cmpR op_eq (pv 1) pe_str (nomark _)) (pss_one (ps_expr (pc (c_go_out T) (hr.mono (by decide)) (passes_call (takes_of rfl rfl rfl rfl) fun _ _ _ _ h => h) (pa_cons (pv 0) (pa_cons (pe_ix ix_tupS (pv 2) pe_int (fun _ _ => rfl)) pa_nil))))) (pss_one (ps_if (pt_cmpR op_eq (pv 1) pe_str (nomark _)) (pss_cons (ps_expr (pc (c_need T) (hr.mono (by decide)) (passes_call (takes_of rfl rfl rfl rfl) fun _ _ _ _ h => h) (pa_cons (pe_cmpR op_ne (pe_ix ix_tupS (pv 2) pe_int (fun _ _ => rfl)) (pe_ix ix_tupS (pv 2) pe_int (fun _ _ => rfl)) (nomark _)) pa_nil)))
  (pss_one (ps_expr (pc (c_come_in T) (hr.mono (by decide)) (passes_call (takes_of rfl rfl rfl rfl) fun _ _ _ _ h => h) (pa_cons (pv 0) (pa_cons (pe_ix ix_tupS (pv 2) pe_int (fun _ _ => rfl)) (pa_cons (pc (c_go_out T) (hr.mono (by decide)) (passes_call (takes_of rfl rfl rfl rfl) fun _ _ _ _ h => h) (pa_cons (pv 0) (pa_cons (pe_ix ix_tupS (pv 2) pe_int (fun _ _ => rfl)) pa_nil))) pa_nil))))))) (pss_one (ps_if (pt_cmpR op_eq (pv 1) pe_str (nomark _)) (pss_cons (ps_expr (pc (c_need T) (hr.mono (by decide)) (passes_call (takes_of rfl rfl rfl rfl) fun _ _ _ _ h => h) (pa_cons (pe_and (pe_cmpR op_notInS (pe_ix ix_tupS (pv 2) pe_int (fun _ _ => rfl)) (pe_fldS T.cl_Books T.n_Books_of_excused (pv 0) rfl) rfl) (pe_one (pe_cmpR op_lt (pe_callB call_lenS (by rfl) T.f_len boot_len (pa_cons (pe_fldS T.cl_Books T.n_Books_of_excused (pv 0) rfl) pa_nil)) (C8.pe_gc rfl T.c_MOST_EXCUSED) (nomark _)))) pa_nil)))
  (pss_one (ps_fldS T.cl_Books T.n_Books_of_excused (pv 0) (pe_callTy call_tupleS (by rfl) T.f_tuple boot_tuple (pa_cons (pe_callB cr_sortedTS (by rfl) T.f_sorted boot_sorted (pa_cons (pe_op op_catTS (pe_fldS T.cl_Books T.n_Books_of_excused (pv 0) rfl) (pv 2)) pa_nil)) pa_nil)) rfl))) (pss_cons (ps_expr (pc (c_need T) (hr.mono (by decide)) (passes_call (takes_of rfl rfl rfl rfl) fun _ _ _ _ h => h) (pa_cons (pe_cmpR op_inS (pe_ix ix_tupS (pv 2) pe_int (fun _ _ => rfl)) (pe_fldS T.cl_Books T.n_Books_of_excused (pv 0) rfl) rfl) pa_nil)))
  (pss_one (ps_fldS T.cl_Books T.n_Books_of_excused (pv 0) (pe_callTy call_tupleS (by rfl) T.f_tuple boot_tuple (pa_cons (pe_lcS (own := [("name", 3)]) (by rfl) sc_do_people.nd (pi_tup (pe_fldS T.cl_Books T.n_Books_of_excused (pv 0) rfl)) (blkOk_by (own := [("name", 3)]) (N := N_do_people) (sc := defScope (top 77)) (by decide +kernel)) (fun _ _ _ _ _ => (pg_name (i := 3) sc_do_people.nd rfl (Or.inl rfl))) (fun _ _ _ _ _ => (pts_one (pt_cmpR op_ne (pv 3) (pe_ix ix_tupS (pv 2) pe_int (fun _ _ => rfl)) (nomark _)))) (fun _ _ _ _ _ => (pv 3))) pa_nil)) rfl))))))))))
  (pss_one (ps_ret (pe_tupS pa_nil)))), ?_⟩
  have hb0 := hb
  have fin : ∀ H1 c' e', Bar b b H H1 → CGood ppl c' → ExcOk e' → IsBk T.cBooks H1 b d { S with county := c', excused := e' } → ∀ p H2, Same H1 H2 → H2 p = some (.tup []) → Q (.ref p) H2 :=
    fun H1 c' e' x g he hk p H2 s2 h2 => q _ _ _ _ (Bar.trans x s2.bar) g he (hk.mono s2) h2
  rcases hpk with ⟨rfl, n, z, rfl, nz, hz⟩ | ⟨rfl, n, rfl⟩ | ⟨rfl, n, m, rfl⟩ | ⟨rfl, z, rfl, nz⟩ | ⟨rfl, z, rfl⟩
  · refine ⟨_, rfl, rfl, true, rfl, iteT ?_⟩
    refine ⟨_, rfl, _, rfl, pt, _, 0, _, rfl, rfl, hpt, rfl, _, rfl, pt, _, 1, _, rfl, rfl, hpt, rfl, b, d, S, n, z, ppl, rfl, hb, ok, nz, hz, fun H1 c' x g hk => ⟨le0, fun p H2 hp s2 h2 => ?_⟩, qe⟩
    exact fin H1 c' S.excused x g ok.ex hk p H2 s2 h2
  · refine ⟨_, rfl, rfl, false, rfl, iteF ⟨_, rfl, rfl, true, rfl, iteT ?_⟩⟩
    refine ⟨_, rfl, _, rfl, pt, _, 0, _, rfl, rfl, hpt, rfl, b, d, S, n, ppl, rfl, hb, ok, fun H1 c' z x g hk _ _ => ⟨le0, fun p H2 hp s2 h2 => ?_⟩, qe⟩
    exact fin H1 c' S.excused x g ok.ex hk p H2 s2 h2
  · refine ⟨_, rfl, rfl, false, rfl, iteF ⟨_, rfl, rfl, false, rfl, iteF ⟨_, rfl, rfl, true, rfl, iteT ?_⟩⟩⟩
    refine ⟨_, rfl, pt, _, 0, _, rfl, rfl, hpt, rfl, _, rfl, pt, _, 1, _, rfl, rfl, hpt, rfl, rfl, _, rfl, fun _ => ?_, fun _ => qe _ Bar.refl⟩
    refine ⟨_, rfl, _, rfl, pt, _, 1, _, rfl, rfl, hpt, rfl, _, rfl, _, rfl, pt, _, 0, _, rfl, rfl, hpt, rfl, b, d, S, n, ppl, rfl, hb, ok, fun H1 c' z x g hk nz hz => ?_, qe⟩
    refine ⟨b, d, { S with county := c' }, m, z, ppl, rfl, hk, ok.cty g ok.ex, nz, hz, fun H2 c2 x2 g2 hk2 => ⟨le0, fun p H3 hp s3 h3 => ?_⟩, fun H2 x2 => qe _ (Bar.trans x x2)⟩
    exact fin H2 c2 S.excused (Bar.trans x x2) g2 ok.ex hk2 p H3 s3 h3
  · obtain ⟨dx, vc, ve, vs, vk, hb, r1, ⟨ea, es, rfl, he, pe⟩, r3, r4⟩ := hb
    have hel : es.length = S.excused.length := pr_len pe
    refine ⟨_, rfl, rfl, false, rfl, iteF ⟨_, rfl, rfl, false, rfl, iteF ⟨_, rfl, rfl, false, rfl, iteF ⟨_, rfl, rfl, true, rfl, iteT ?_⟩⟩⟩⟩
    refine ⟨_, rfl, pt, _, 0, _, rfl, rfl, hpt, rfl, _, rfl, b, dx, _, _, rfl, hb, rfl, ea, es, rfl, .inr he, rfl, by rw [pr_str pe]; exact flat_strs _, _, rfl, ite2 (fun c1 => ?_) (fun c1 => ⟨false, rfl, (by intro e; cases e), fun _ => qe _ Bar.refl⟩)⟩
    have hnin : z ∉ S.excused := fun hin => by
      have c1 : (!inV (.str z) es) = true := c1
      rw [pr_str pe, inV_strs, decide_eq_true hin] at c1
      cases c1
    refine ⟨_, rfl, b, dx, _, _, rfl, hb, rfl, ea, es, rfl, .inr he, _, _, rfl, rfl, _, rfl, fun c2 => ?_, fun _ => qe _ Bar.refl⟩
    have c2 : S.excused.length < 40 := by have := of_decide_eq_true c2; omega
    refine ⟨_, rfl, b, dx, _, _, rfl, hb, rfl, _, rfl, ea, pt, es, _, rfl, rfl, he, hpt, by rw [hel]; show _ + 1 ≤ 1000000; omega, fun p1 H1 s1 h1 => ?_⟩
    refine ⟨p1, S.excused ++ [z], rfl, by rw [h1, pr_str pe, List.map_append]; rfl, by rw [List.length_append]; show _ + 1 < 64; omega, fun ys p2 H2 s2 hperm hsort hp2 h2 => ?_⟩
    refine ⟨p2, _, rfl, h2, fun p3 H3 hp3 s3 h3 => ?_⟩
    have s13 := s1.trans (s2.trans s3)
    refine ⟨_, rfl, b, dx, _, rfl, s13 _ _ hb, bk_few, le0, fun p4 H4 hp4 s4 h4 => ?_⟩
    have tk6 : Tk H3 (upd H3 b (.ins T.cBooks dx (putF "of_excused" (.ref p3) (bkF S vc (.ref ea) vs vk d)))) := Tk.upd (s13 _ _ hb) fun _ z => by cases z
    have tk := s13.tk.trans tk6
    refine fin (upd H3 b (.ins T.cBooks dx (putF "of_excused" (.ref p3) (bkF S vc (.ref ea) vs vk d)))) S.county ys (Bar.of s13) ok.good (exc_sorted ok.ex nz c2 hnin hperm hsort) ?_ p4 H4 s4 h4
    exact ⟨dx, vc, .ref p3, vs, vk, upd_same, Mon.go (A := rCounty) tk r1, ⟨p3, _, rfl, tk6 _ _ h3, str_pr _⟩, Mon.go (A := rTL rPRow) tk r3, Mon.go (A := rTL rRec) tk r4⟩
  · obtain ⟨dx, vc, ve, vs, vk, hb, r1, ⟨ea, es, rfl, he, pe⟩, r3, r4⟩ := hb
    have hel : es.length = S.excused.length := pr_len pe
    have hl := ok.ex.len
    refine ⟨_, rfl, rfl, false, rfl, iteF ⟨_, rfl, rfl, false, rfl, iteF ⟨_, rfl, rfl, false, rfl, iteF ⟨_, rfl, rfl, false, rfl, iteF ?_⟩⟩⟩⟩
    refine ⟨_, rfl, pt, _, 0, _, rfl, rfl, hpt, rfl, _, rfl, b, dx, _, _, rfl, hb, rfl, ea, es, rfl, .inr he, rfl, by rw [pr_str pe]; exact flat_strs _, _, rfl, fun _ => ?_, fun _ => qe _ Bar.refl⟩
    refine ⟨_, rfl, b, dx, _, _, rfl, hb, rfl, ea, rfl, ⟨es, SqT.of he⟩, fun D hD => ?_⟩
    refine lcS (A := rS) (B := rS) (ds := S.excused) src_tup (fun x => decide (x ≠ z)) (fun x => x) hD (by omega) (fun H2 s2 => okT_mono s2.tk ⟨es, he, pe⟩) (fun i y x H2 hd s2 r => ?_) fun acc H1 s1 hD1 pa => ?_
    · obtain rfl : x = .str y := r
      refine ⟨rfl, _, rfl, _, rfl, pt, _, 0, _, rfl, rfl, s2 _ _ hpt, rfl, rfl, _, rfl, ite2 (fun e => ?_) (fun e => ?_)⟩
      · have e : (!decide (V.str y = V.str z)) = true := e
        exact ⟨_, rfl, Same.refl _, decide_eq_true (fun e2 => by rw [e2, decide_eq_true rfl] at e; cases e), rfl⟩
      · have e : ¬ (!decide (V.str y = V.str z)) = true := e
        exact ⟨Same.refl _, decide_eq_false fun e2 => e (by rw [decide_eq_false (fun e3 => e2 (by injection e3))]; rfl)⟩
    rw [List.map_id'] at pa
    refine ⟨D, acc, rfl, hD1, fun p3 H3 hp3 s3 h3 => ?_⟩
    have s13 := s1.trans s3
    refine ⟨_, rfl, b, dx, _, rfl, s13 _ _ hb, bk_few, le0, fun p4 H4 hp4 s4 h4 => ?_⟩
    have tk6 : Tk H3 (upd H3 b (.ins T.cBooks dx (putF "of_excused" (.ref p3) (bkF S vc (.ref ea) vs vk d)))) := Tk.upd (s13 _ _ hb) fun _ z => by cases z
    have tk := s13.tk.trans tk6
    refine fin (upd H3 b (.ins T.cBooks dx (putF "of_excused" (.ref p3) (bkF S vc (.ref ea) vs vk d)))) S.county (S.excused.filter fun x => decide (x ≠ z)) (Bar.of s13) ok.good (exc_filter _ ok.ex) ?_ p4 H4 s4 h4
    exact ⟨dx, vc, .ref p3, vs, vk, upd_same, Mon.go (A := rCounty) tk r1, ⟨p3, _, rfl, tk6 _ _ h3, mnL (s3.tk.trans tk6) pa⟩, Mon.go (A := rTL rPRow) tk r3, Mon.go (A := rTL rRec) tk r4⟩
end
end K5
set_option maxHeartbeats 1000000
namespace K5
open PySem PySem.Spec PyProof.Rows L2
theorem Bar.l {b d : Addr} {H H' : Hp} (x : Bar b b H H') : Bar b d H H' := fun a u h _ e => x a u h h e
theorem Bar.r {b d : Addr} {H H' : Hp} (x : Bar d d H H') : Bar b d H H' := fun a u _ h e => x a u h h e
theorem same_make {H : Hp} {x dx : Addr} {o0 o1 : HO} (hx : H x = none) (hdx : H dx = none) : Same H (upd (upd (upd H dx (.own x)) x o0) x o1) := fun a u h => by
  rw [upd_ne (ne_of_none h hx), upd_ne (ne_of_none h hx), upd_ne (ne_of_none h hdx)]
  exact h
def rU : Rel Unit := fun _ _ _ => True
instance : Mon rU := ⟨fun _ _ => True.intro⟩
abbrev tmF (z : Str) (e : Addr) (c w : Int) : List (Str × V) := [("collector", .str z), ("told", .ref e), ("came", .int c), ("went", .int w)]
theorem mk_term {CT : Addr} {H : Hp} {x dx d e : Addr} {n : Nat} {z : Str} {c w : Int} {o0 : HO} {kvs : List (Key × V)} (hx : H x = none) (hdx : H dx = none) (hed : e ≠ d) (he : H e = some (.dK kvs)) (hl : kvs.length ≤ n) (hk : ∀ kv ∈ kvs, ∃ x : Str × Int, rP rS rI H kv.2 x ∧ PyData.strOk x.1 = true) :
    IsTerm CT (upd (upd (upd H dx (.own x)) x o0) x (.ins CT dx (tmF z e c w))) d n (.ref x) := by
  have s := same_make (o0 := o0) (o1 := .ins CT dx (tmF z e c w)) hx hdx
  exact ⟨x, dx, z, e, c, w, kvs, rfl, upd_same, hed, s _ _ he, hl, fun kv hm => let ⟨y, hy, ho⟩ := hk kv hm; ⟨y, mn s hy, ho⟩⟩
def spDoHand (CB CT C : Addr) : Sp := fun vs H Q E => ∃ b d S n wd z k pe pt, vs = [.ref b, .str wd, .ref pt] ∧ (wd = "hand" ∨ wd = "pass") ∧ IsBk CB H b d S ∧ IsTerms CT H d n ∧ n ≤ 1000 ∧ 0 ≤ k ∧ H pt = some (.tup [.str z, .int k, .int pe]) ∧
  (∀ H' a tc, Bar b d H H' → IsBk CB H' b d { S with toC := tc } → IsTerms CT H' d n → H' a = some (.tup []) → Q (.ref a) H') ∧ (∀ H', Bar b d H H' → E (.ref C) none H')
def spDoPay (CB CT C : Addr) : Sp := fun vs H Q E => ∃ b d S n ppl z k rc hz pe pt, vs = [.ref b, .ref pt] ∧ IsBk CB H b d S ∧ BkOk ppl S ∧ IsTerms CT H d n ∧ n + 1 ≤ 1000 ∧ S.coming.length ≤ n ∧ 0 ≤ k ∧ NameOk hz ∧ hz ∈ ppl ∧ H pt = some (.tup [.str z, .int k, .int rc, .str hz, .int pe]) ∧
  (∀ H', Bar b d H H' → Q .non H') ∧
  (∀ H' a, Bar b d H H' → IsBk CB H' b d { S with coming := S.coming ++ [(z, k, rc, hz, pe)] } → IsTerms CT H' d (n + 1) → (∃ xs, H' a = some (.tup xs)) → Q (.ref a) H') ∧ (∀ H', Bar b d H H' → E (.ref C) none H')
section
variable {P : Program} {w : World} {K : PySem.W.Frag} {mg : Str → Option Value} {base : Heap}
abbrev N_do_term : List Str := ["books", "parts", "terms", "name", "houses"]
theorem sc_do_term : FnScope N_do_term ["books", "parts"] (defScope (top 81)) := ⟨rfl, rfl, rfl, by decide +kernel, rfl, by decide +kernel, by decide +kernel⟩
theorem c_do_term (T : Txt w K mg) : Cl P w K mg base (L2.CX P w) 3 "do_term" (spDoTerm T.cBooks T.cTerm T.eBadDeed) := by
  refine Cl.of T.d_do_term sc_do_term (fun _ _ _ _ _ _ us h => by obtain ⟨u0, u1, rfl⟩ := len2 h; rfl) (fun vs H Q E h => by obtain ⟨b, d, S, n, z, y, pt, rfl, hb, ok, ht, hn, hpt, q, qe⟩ := h; rfl) fun f cdv A outer s H vs Q E hr h => ?_
  obtain ⟨b, d, S, n, z, y, pt, rfl, hb, ok, ht, hn, hpt, q, qe⟩ := h
  refine ⟨_, (pss_cons (ps_expr (pc (c_need T) (hr.mono (by decide)) (passes_call (takes_of rfl rfl rfl rfl) fun _ _ _ _ h => h) (pa_cons (pe_cmpR op_inS (pe_ix ix_tupS (pv 1) pe_int (fun _ _ => rfl)) (pe_lcS (own := [("name", 3), ("houses", 4)]) (by rfl) sc_do_term.nd (pi_tup (pe_fldS T.cl_Books T.n_Books_of_county (pv 0) rfl)) (blkOk_by (own := [("name", 3), ("houses", 4)]) (N := N_do_term) (sc := defScope (top 81)) (by decide +kernel)) (fun _ _ _ _ _ => (pg_tupS (n := 2) rfl (pgs_cons (pg_name (i := 3) sc_do_term.nd rfl (Or.inl rfl)) (pgs_cons (pg_name (i := 4) sc_do_term.nd rfl (Or.inl rfl)) pgs_nil)))) (fun _ _ _ _ _ => pts_nil) (fun _ _ _ _ _ => (pv 3))) rfl) pa_nil)))
  (pss_cons (ps_set (i := 2) sc_do_term.nd rfl (Or.inl rfl) (pe_dget2 (hu_of hr) (pe_fldS T.cl_Books T.n_Books_by_parish (pv 0) rfl) (pe_ix ix_tupS (pv 1) pe_int (fun _ _ => rfl)) (pe_tupS pa_nil) ⟨rfl, rfl, rfl, rfl⟩))
  (pss_cons (ps_expr (pc (c_need T) (hr.mono (by decide)) (passes_call (takes_of rfl rfl rfl rfl) fun _ _ _ _ h => h) (pa_cons (pe_cmpR op_lt (pe_callB call_lenS (by rfl) T.f_len boot_len (pa_cons (pv 2) pa_nil)) (C8.pe_gc rfl T.c_MOST_TERMS) (nomark _)) pa_nil)))
  (pss_cons (ps_dput (hu_of hr) (pe_fldS T.cl_Books T.n_Books_by_parish (pv 0) rfl) (pe_ix ix_tupS (pv 1) pe_int (fun _ _ => rfl)) (pe_op op_catTS (pv 2) (pe_tupS (pa_cons (pk (c_Term_init T) (hr.mono (by decide)) pass0 (pa_cons (pe_ix ix_tupS (pv 1) pe_int (fun _ _ => rfl)) (pa_cons pe_dnewK (pa_cons pe_int (pa_cons pe_int pa_nil))))) pa_nil))) rfl)
  (pss_one (ps_ret (pe_tupS pa_nil))))))), ?_⟩
  have hb0 := hb
  have hc := ok.hi
  obtain ⟨dx, vc, ve, vs, vk, hb, ⟨ca, cs, rfl, hca, pcs⟩, r⟩ := hb
  have ht0 := ht
  obtain ⟨kvs, hd, hl, hk⟩ := ht
  have hcl : cs.length = S.county.length := pr_len pcs
  refine ⟨_, rfl, pt, _, 0, _, rfl, rfl, hpt, rfl, _, rfl, b, dx, _, _, rfl, hb, rfl, ca, rfl, ⟨cs, SqT.of hca⟩, fun D hD => ?_⟩
  refine lcM (A := rParish) (B := rS) (ds := S.county) src_tup (fun p => p.1) hD (by omega) (fun H2 s2 => okT_mono s2.tk ⟨cs, hca, pcs⟩) (fun i d x H2 hd s2 r => ?_) fun acc H1 s1 hD1 pa => ?_
  · obtain ⟨a1, p, p2, rfl, h1, rfl, _⟩ := r
    exact ⟨a1, _, rfl, h1, rfl, _, _, rfl, _, _, rfl, rfl, rfl, _, rfl, Same.refl _, rfl⟩
  refine ⟨D, acc, rfl, .inl hD1, rfl, by rw [pr_str pa]; exact flat_strs _, _, rfl, fun _ => ?_, fun e => qe _ s1.bar fun y => ?_⟩
  rotate_left
  · have e : inV (.str z) acc = false := e
    rw [pr_str pa, inV_strs, decide_eq_true y.1] at e
    cases e
  refine ⟨_, rfl, b, dx, _, _, rfl, s1 _ _ hb, rfl, d, rfl, .inl ⟨kvs, .inl (s1 _ _ hd)⟩, _, rfl, pt, _, 0, _, rfl, rfl, s1 _ _ hpt, rfl, le0, fun p2 H2 hp2 s2 h2 => ⟨_, DGet.k (k := Sum.inr z) (s2 _ _ (s1 _ _ hd)), ?_⟩⟩
  have s12 := s1.trans s2
  have hv : ∃ a ts, (valV kvs (Sum.inr z)).getD (V.ref p2) = .ref a ∧ H2 a = some (.tup ts) ∧ ts.length ≤ min 20 n ∧ ∀ t ∈ ts, IsTerm T.cTerm H2 d n t := by
    cases hv : valV kvs (Sum.inr z) with
    | none => exact ⟨p2, [], rfl, h2, Nat.zero_le _, fun t h => by cases h⟩
    | some v =>
      obtain ⟨kv, hm, rfl⟩ := valV_mem hv
      obtain ⟨a, ts, ea, ha, hts, htt⟩ := hk kv hm
      exact ⟨a, ts, ea, s12 _ _ ha, hts, fun t h => (htt t h).mono s12⟩
  obtain ⟨a, ts, ea, ha, hts, htt⟩ := hv
  rw [ea]
  refine ⟨_, rfl, a, ts, rfl, .inr ha, _, _, rfl, rfl, _, rfl, fun c => ?_, fun e => qe _ s12.bar fun y => ?_⟩
  rotate_left
  · have := of_decide_eq_false e
    omega
  have c : ts.length < 20 := by have := of_decide_eq_true c; omega
  refine ⟨_, rfl, _, rfl, pt, _, 1, _, rfl, rfl, s12 _ _ hpt, rfl, fun e he => fun x dx2 hx hdx hne => ⟨x, dx2, y, e, 0, 0, rfl, upd_same, rfl, ?_⟩⟩
  have s3 : Same H2 (upd H2 e (.dK [])) := Same.new he
  have s4 := s3.trans (same_make (o0 := .ins T.cTerm dx2 []) (o1 := .ins T.cTerm dx2 (tmF y e 0 0)) hx hdx)
  have hd2 := s12 _ _ hd
  have hT := mk_term (CT := T.cTerm) (z := y) (c := 0) (w := 0) (n := n + 1) (o0 := .ins T.cTerm dx2 []) (d := d) hx hdx (ne_of_none hd2 he).symm (upd_same (H := H2) (a := e) (o := .dK [])) (Nat.zero_le _) (fun kv h => by cases h)
  refine ⟨le1, fun p5 H5 hp5 s5 h5 => ⟨a, p5, ts, _, rfl, rfl, s5 _ _ (s4 _ _ ha), h5, by show ts.length + 1 ≤ 1000000; omega, fun p6 H6 s6 h6 => ?_⟩⟩
  have s56 := s5.trans s6
  have s26 := s4.trans s56
  have s06 := s12.trans s26
  have hd6 := s06 _ _ hd
  refine ⟨_, rfl, b, dx, _, _, rfl, s06 _ _ hb, rfl, _, rfl, pt, _, 0, _, rfl, rfl, s06 _ _ hpt, rfl, d, _, rfl, DPut.k (k := Sum.inr z) hd6 (line_lt (by omega)), le0, fun p7 H7 hp7 s7 h7 => ?_⟩
  have br : Bar d d H6 (upd H6 d (.dK (putK kvs (Sum.inr z) (.ref p6)))) := Bar.put
  have tkd : Tk H6 (upd H6 d (.dK (putK kvs (Sum.inr z) (.ref p6)))) := Tk.upd hd6 fun _ z => by cases z
  refine q _ _ (Bar.trans s06.bar (Bar.trans br s7.bar)) (((hb0.mono s06).barD hd6 br).mono s7) (IsTerms.mono s7 ⟨_, upd_same, ?_, fun kv hkv => ?_⟩) h7
  · have := length_putK kvs (Sum.inr z) (V.ref p6)
    omega
  · rcases putK_mem hkv with u | u
    · obtain ⟨a1, ts1, e1, g1, g2, g3⟩ := hk kv u
      exact ⟨a1, ts1, e1, tkd _ _ (s06 _ _ g1), Nat.le_trans g2 (by omega), fun t' ht' => (((g3 t' ht').mono s06).barD hd6 br).le (Nat.le_succ _)⟩
    · refine ⟨p6, _, u, tkd _ _ h6, by show (ts ++ [V.ref x]).length ≤ min 20 (n + 1); rw [List.length_append]; show ts.length + 1 ≤ min 20 (n + 1); omega, fun t' ht' => ?_⟩
      rcases List.mem_append.mp ht' with v | v
      · exact (((htt t' v).mono s26).barD hd6 br).le (Nat.le_succ _)
      · rw [List.mem_singleton.mp v]
        exact (hT.mono s56).barD hd6 br
abbrev N_do_hand : List Str := ["books", "word", "parts", "parish", "number", "pence", "term", "other"]
theorem sc_do_hand : FnScope N_do_hand ["books", "word", "parts"] (defScope (top 83)) := ⟨rfl, rfl, rfl, by decide +kernel, rfl, by decide +kernel, by decide +kernel⟩
theorem c_do_hand (T : Txt w K mg) : Cl P w K mg base (L2.CX P w) 3 "do_hand" (spDoHand T.cBooks T.cTerm T.eBadDeed) := by
  refine Cl.of T.d_do_hand sc_do_hand (fun _ _ _ _ _ _ us h => by obtain ⟨u0, u1, u2, rfl⟩ := len3 h; rfl) (fun vs H Q E h => by obtain ⟨b, d, S, n, wd, z, k, pe, pt, rfl, hw, hb, ht, hn, h0, hpt, q, qe⟩ := h; rfl) fun f cdv A outer s H vs Q E hr h => ?_
  obtain ⟨b, d, S, n, wd, z, k, pe, pt, rfl, hw, hb, ht, hn, h0, hpt, q, qe⟩ := h
  refine ⟨_, (pss_cons (ps_asg (pv 2) (pg_tupS (n := 3) rfl (pgs_cons (pg_name (i := 3) sc_do_hand.nd rfl (Or.inl rfl)) (pgs_cons (pg_name (i := 4) sc_do_hand.nd rfl (Or.inl rfl)) (pgs_cons (pg_name (i := 5) sc_do_hand.nd rfl (Or.inl rfl)) pgs_nil)))))
  (pss_cons (ps_set (i := 6) sc_do_hand.nd rfl (Or.inl rfl) (pm (c_Books_term_of T) (hr.mono (by decide)) (passes_call (takes_of rfl rfl rfl rfl) fun _ _ _ _ h => h) (pv 0) (pa_cons (pv 3) (pa_cons (pv 4) pa_nil))))
  (pss_cons (ps_expr (pc (c_need T) (hr.mono (by decide)) (passes_call (takes_of rfl rfl rfl rfl) fun _ _ _ _ h => h) (pa_cons (pe_chain op_le op_le pe_int (pv 5) (pm0 (c_Term_in_hand T) (hr.mono (by decide)) pass0 (pv 6))) pa_nil)))
  (pss_cons (ps_expr (pm (c_Books_with_term T) (hr.mono (by decide)) pass0 (pv 0) (pa_cons (pv 3) (pa_cons (pv 4) (pa_cons (pk (c_Term_init T) (hr.mono (by decide)) pass0 (pa_cons (pe_fldS T.cl_Term T.n_Term_collector (pv 6) rfl) (pa_cons (pe_fldS T.cl_Term T.n_Term_told (pv 6) rfl) (pa_cons (pe_fldS T.cl_Term T.n_Term_came (pv 6) rfl) (pa_cons (pe_op op_add (pe_fldS T.cl_Term T.n_Term_went (pv 6) rfl) (pv 5)) pa_nil))))) pa_nil)))))
  (pss_cons (ps_if (pt_cmpR op_eq (pv 1) pe_str (nomark _)) (pss_one (ps_fldS T.cl_Books T.n_Books_to_county (pv 0) (pe_op op_add (pe_fldS T.cl_Books T.n_Books_to_county (pv 0) rfl) (pv 5)) rfl)) (pss_cons (ps_set (i := 7) sc_do_hand.nd rfl (Or.inl rfl) (pm (c_Books_term_of T) (hr.mono (by decide)) (passes_call (takes_of rfl rfl rfl rfl) fun _ _ _ _ h => h) (pv 0) (pa_cons (pv 3) (pa_cons (pe_op op_add (pv 4) pe_int) pa_nil))))
  (pss_one (ps_expr (pm (c_Books_with_term T) (hr.mono (by decide)) pass0 (pv 0) (pa_cons (pv 3) (pa_cons (pe_op op_add (pv 4) pe_int) (pa_cons (pk (c_Term_init T) (hr.mono (by decide)) pass0 (pa_cons (pe_fldS T.cl_Term T.n_Term_collector (pv 7) rfl) (pa_cons (pe_fldS T.cl_Term T.n_Term_told (pv 7) rfl) (pa_cons (pe_op op_add (pe_fldS T.cl_Term T.n_Term_came (pv 7) rfl) (pv 5)) (pa_cons (pe_fldS T.cl_Term T.n_Term_went (pv 7) rfl) pa_nil))))) pa_nil))))))))
  (pss_one (ps_ret (pe_tupS pa_nil)))))))), ?_⟩
  have hb0 := hb
  obtain ⟨dx, vc, ve, vs, vk, hb, r1, r2, r3, r4⟩ := hb
  refine ⟨_, rfl, pt, _, rfl, hpt, rfl, _, _, rfl, _, _, rfl, _, _, rfl, rfl, ?_⟩
  refine ⟨_, rfl, b, dx, _, rfl, hb, rfl, _, rfl, _, rfl, b, d, S, n, z, k, rfl, h0, hb0, ht, fun t H1 s1 hh1 ht1 => ?_, fun H1 s1 => qe _ s1.bar⟩
  have ht10 := ht1
  obtain ⟨a, dx1, cz, e, cm, wt, kvs, rfl, ha, hed, he, hl, hk⟩ := ht1
  refine ⟨_, rfl, _, _, rfl, rfl, _, rfl, ite2 (fun c1 => ?_) (fun c1 => ⟨false, rfl, (by intro e; cases e), fun _ => qe _ s1.bar⟩)⟩
  refine ⟨_, rfl, a, dx1, tmF cz e cm wt, rfl, ha, rfl, d, n, _, rfl, ht10, hn, fun i H2 s2 => ⟨_, _, rfl, rfl, _, rfl, fun _ => ?_, fun _ => qe _ (s1.trans s2).bar⟩⟩
  have s12 := s1.trans s2
  have ha2 := s2 _ _ ha
  refine ⟨_, rfl, b, dx, bkF S vc ve vs vk d, rfl, s12 _ _ hb, rfl, _, rfl, _, rfl, _, rfl, a, dx1, tmF cz e cm wt, _, rfl, ha2, rfl, _, rfl, a, dx1, tmF cz e cm wt, _, rfl, ha2, rfl, _, rfl, a, dx1, tmF cz e cm wt, _, rfl, ha2, rfl, _, rfl, a, dx1, tmF cz e cm wt, _, rfl, ha2, rfl, _, rfl, _, _, rfl, rfl, fun x dx2 hx hdx hne => ⟨x, dx2, cz, e, cm, _, rfl, upd_same, rfl, ?_⟩⟩
  have s3 := same_make (o0 := .ins T.cTerm dx2 []) (o1 := .ins T.cTerm dx2 (tmF cz e cm (wt + pe))) hx hdx
  have hT := mk_term (CT := T.cTerm) (z := cz) (c := cm) (w := wt + pe) (n := n) (o0 := .ins T.cTerm dx2 []) (d := d) hx hdx hed (s2 _ _ he) hl (fun kv h => let ⟨y, hy, ho⟩ := hk kv h; ⟨y, mn s2 hy, ho⟩)
  have s13 := s12.trans s3
  refine ⟨b, d, S, n, n, z, k, _, rfl, hb0.mono s13, ht.mono s13, (hh1.mono s2).mono s3, Nat.le_refl _, hn, hT, fun H4 x4 hb4 ht4 => ?_⟩
  have x04 : Bar b d H H4 := Bar.trans s13.bar x4.r
  have hb4' := hb4
  obtain ⟨dx4, vc4, ve4, vs4, vk4, g4, q1, q2, q3, q4⟩ := hb4'
  rcases hw with rfl | rfl
  · refine ⟨_, rfl, rfl, true, rfl, iteT ⟨_, rfl, b, dx4, _, _, rfl, g4, rfl, _, rfl, _, _, rfl, rfl, _, rfl, b, dx4, _, rfl, g4, bk_few, le0, fun p5 H5 hp5 s5 h5 => ?_⟩⟩
    have br : Bar b b H4 (upd H4 b (.ins T.cBooks dx4 (putF "to_county" (.int (S.toC + pe)) (bkF S vc4 ve4 vs4 vk4 d)))) := Bar.put
    have tk6 := hb4.tk br
    exact q _ _ (S.toC + pe) (Bar.trans x04 (Bar.trans br.l s5.bar)) (IsBk.mono s5 ⟨dx4, vc4, ve4, vs4, vk4, upd_same, Mon.go (A := rCounty) tk6 q1, Mon.go (A := rTL rS) tk6 q2, Mon.go (A := rTL rPRow) tk6 q3, Mon.go (A := rTL rRec) tk6 q4⟩) ((ht4.bar hb4 br).mono s5) h5
  · refine ⟨_, rfl, rfl, false, rfl, iteF ?_⟩
    refine ⟨_, rfl, b, dx4, bkF S vc4 ve4 vs4 vk4 d, rfl, g4, rfl, _, rfl, _, rfl, _, _, rfl, rfl, b, d, S, n, z, k + 1, rfl, by omega, hb4, ht4, fun t5 H5 s5 hh5 ht5 => ?_, fun H5 s5 => qe _ (Bar.trans x04 s5.bar)⟩
    obtain ⟨a5, dx5, cz5, e5, cm5, wt5, kvs5, rfl, ha5, hed5, he5, hl5, hk5⟩ := ht5
    refine ⟨_, rfl, b, dx4, bkF S vc4 ve4 vs4 vk4 d, rfl, s5 _ _ g4, rfl, _, rfl, _, rfl, _, _, rfl, rfl, _, rfl, a5, dx5, tmF cz5 e5 cm5 wt5, _, rfl, ha5, rfl, _, rfl, a5, dx5, tmF cz5 e5 cm5 wt5, _, rfl, ha5, rfl, _, rfl, a5, dx5, tmF cz5 e5 cm5 wt5, _, rfl, ha5, rfl, _, rfl, _, _, rfl, rfl, _, rfl, a5, dx5, tmF cz5 e5 cm5 wt5, _, rfl, ha5, rfl, fun x6 dx6 hx6 hdx6 hne6 => ⟨x6, dx6, cz5, e5, _, wt5, rfl, upd_same, rfl, ?_⟩⟩
    have s6 := same_make (o0 := .ins T.cTerm dx6 []) (o1 := .ins T.cTerm dx6 (tmF cz5 e5 (cm5 + pe) wt5)) hx6 hdx6
    have hT6 := mk_term (CT := T.cTerm) (z := cz5) (c := cm5 + pe) (w := wt5) (n := n) (o0 := .ins T.cTerm dx6 []) (d := d) hx6 hdx6 hed5 he5 hl5 hk5
    have s56 := s5.trans s6
    refine ⟨b, d, S, n, n, z, k + 1, _, rfl, hb4.mono s56, ht4.mono s56, hh5.mono s6, Nat.le_refl _, hn, hT6, fun H7 x7 hb7 ht7 => ⟨le0, fun p8 H8 hp8 s8 h8 => ?_⟩⟩
    exact q _ _ S.toC (Bar.trans x04 (Bar.trans s56.bar (Bar.trans x7.r s8.bar))) (hb7.mono s8) (ht7.mono s8) h8
abbrev N_do_pay : List Str := ["books", "parts", "parish", "number", "receipt", "holder", "pence", "term", "ahead", "credit", "told", "behind", "later", "rows", "old", "new"]
theorem sc_do_pay : FnScope N_do_pay ["books", "parts"] (defScope (top 82)) := ⟨rfl, rfl, rfl, by decide +kernel, rfl, by decide +kernel, by decide +kernel⟩
theorem c_do_pay (T : Txt w K mg) : Cl P w K mg base (L2.CX P w) 9 "do_pay" (spDoPay T.cBooks T.cTerm T.eBadDeed) := by
  refine Cl.of T.d_do_pay sc_do_pay (fun _ _ _ _ _ _ us h => by obtain ⟨u0, u1, rfl⟩ := len2 h; rfl) (fun vs H Q E h => by obtain ⟨b, d, S, n, ppl, z, k, rc, hz, pe, pt, rfl, hb, ok, ht, hn, hcl, h0, nz, hin, hpt, qn, q, qe⟩ := h; rfl) fun f cdv A outer s H vs Q E hr h => ?_
  obtain ⟨b, d, S, n, ppl, z, k, rc, hz, pe, pt, rfl, hb, ok, ht, hn, hcl, h0, nz, hin, hpt, qn, q, qe⟩ := h
  refine ⟨_, (pss_cons (ps_asg (pv 1) (pg_tupS (n := 5) rfl (pgs_cons (pg_name (i := 2) sc_do_pay.nd rfl (Or.inl rfl)) (pgs_cons (pg_name (i := 3) sc_do_pay.nd rfl (Or.inl rfl)) (pgs_cons (pg_name (i := 4) sc_do_pay.nd rfl (Or.inl rfl)) (pgs_cons (pg_name (i := 5) sc_do_pay.nd rfl (Or.inl rfl)) (pgs_cons (pg_name (i := 6) sc_do_pay.nd rfl (Or.inl rfl)) pgs_nil)))))))
  (pss_cons (ps_set (i := 7) sc_do_pay.nd rfl (Or.inl rfl) (pm (c_Books_term_of T) (hr.mono (by decide)) (passes_call (takes_of rfl rfl rfl rfl) fun _ _ _ _ h => h) (pv 0) (pa_cons (pv 2) (pa_cons (pv 3) pa_nil))))
  (pss_cons (ps_expr (pc (c_need T) (hr.mono (by decide)) (passes_call (takes_of rfl rfl rfl rfl) fun _ _ _ _ h => h) (pa_cons (pe_and (pe_cmpR op_gt (pv 6) pe_int (nomark _)) (pe_one (pe_cmpR (op_eqT hr.units) (pe_dget2 (hu_of hr) (pe_fldS T.cl_Term T.n_Term_told (pv 7) rfl) (pv 4) (pe_tupS (pa_cons (pv 5) (pa_cons (pv 6) pa_nil))) ⟨rfl, rfl, rfl, rfl⟩) (pe_tupS (pa_cons (pv 5) (pa_cons (pv 6) pa_nil))) (nomark _)))) pa_nil)))
  (pss_cons (ps_if (pt_cmp (pc_din (hu_of hr) (pv 4) (pe_fldS T.cl_Term T.n_Term_told (pv 7) rfl))) (pss_one (ps_ret pe_non)) pss_nil)
  (L2.PSs.norm (pss_cons (ps_asg (pm (c_Books_account_of T) (hr.mono (by decide)) pass0 (pv 0) (pa_cons (pv 5) pa_nil)) (pg_tupS (n := 2) rfl (pgs_cons (pg_name (i := 8) sc_do_pay.nd rfl (Or.inl rfl)) (pgs_cons (pg_name (i := 9) sc_do_pay.nd rfl (Or.inl rfl)) pgs_nil))))
  (pss_cons (ps_set (i := 10) sc_do_pay.nd rfl (Or.inl rfl) (pe_callTy call_dictD (by rfl) T.f_dict boot_dict (pa_cons (pe_fldS T.cl_Term T.n_Term_told (pv 7) rfl) pa_nil)))
  (pss_cons (ps_dput (hu_of hr) (pv 10) (pv 4) (pe_tupS (pa_cons (pv 5) (pa_cons (pv 6) pa_nil))) rfl)
  (pss_cons (ps_expr (pm (c_Books_with_term T) (hr.mono (by decide)) pass0 (pv 0) (pa_cons (pv 2) (pa_cons (pv 3) (pa_cons (pk (c_Term_init T) (hr.mono (by decide)) pass0 (pa_cons (pe_fldS T.cl_Term T.n_Term_collector (pv 7) rfl) (pa_cons (pv 10) (pa_cons (pe_fldS T.cl_Term T.n_Term_came (pv 7) rfl) (pa_cons (pe_fldS T.cl_Term T.n_Term_went (pv 7) rfl) pa_nil))))) pa_nil)))))
  (pss_cons (ps_fldS T.cl_Books T.n_Books_coming (pv 0) (pe_op op_catTS (pe_fldS T.cl_Books T.n_Books_coming (pv 0) rfl) (pe_tupS (pa_cons (pv 1) pa_nil))) rfl)
  (pss_cons (ps_asg (pm (c_Books_account_of T) (hr.mono (by decide)) pass0 (pv 0) (pa_cons (pv 5) pa_nil)) (pg_tupS (n := 2) rfl (pgs_cons (pg_name (i := 11) sc_do_pay.nd rfl (Or.inl rfl)) (pgs_cons (pg_name (i := 12) sc_do_pay.nd rfl (Or.inl rfl)) pgs_nil))))
  (L2.PSs.norm (pss_cons (ps_setLcS (i := 13) (own := [("old", 14), ("new", 15)]) rfl sc_do_pay.nd rfl rfl (sw_true rfl rfl rfl (by decide +kernel)) (pi_zipX (by rfl) T.f_zip (pa_cons (pv 8) (pa_cons (pv 11) pa_nil))) (blkOk_by (own := [("old", 14), ("new", 15)]) (N := N_do_pay) (sc := defScope (top 82)) (by decide +kernel)) (fun _ _ _ _ _ => (pg_tupS (n := 2) rfl (pgs_cons (pg_name (i := 14) sc_do_pay.nd rfl (Or.inl rfl)) (pgs_cons (pg_name (i := 15) sc_do_pay.nd rfl (Or.inl rfl)) pgs_nil)))) (fun _ _ _ _ _ => (pts_one (pt_cmpR op_gt (pe_ix ix_tupS (pv 15) pe_int (fun _ _ => rfl)) (pe_ix ix_tupS (pv 14) pe_int (fun _ _ => rfl)) (nomark _)))) (fun _ _ _ _ _ => (pe_op op_catTS (pe_slice sl_tupS (pv 15) po_none (po_some pe_int)) (pe_tupS (pa_cons (pe_op op_sub (pe_ix ix_tupS (pv 15) pe_int (fun _ _ => rfl)) (pe_ix ix_tupS (pv 14) pe_int (fun _ _ => rfl))) pa_nil)))))
  (pss_one (ps_ret (pe_op op_catTS (pe_callTy call_tupleS (by rfl) T.f_tuple boot_tuple (pa_cons (pv 13) pa_nil)) (pe_tupS (pa_cons (pe_tupS (pa_cons pe_str (pa_cons (pe_op op_sub (pv 12) (pv 9)) pa_nil))) pa_nil)))))))))))))))))), ?_⟩
  have hb0 := hb
  obtain ⟨dx, vc, ve, vs, vk, hb, r1, r2, r3, r4⟩ := hb
  refine ⟨_, rfl, pt, _, rfl, hpt, rfl, _, _, rfl, _, _, rfl, _, _, rfl, _, _, rfl, _, _, rfl, rfl, ?_⟩
  refine ⟨_, rfl, b, dx, _, rfl, hb, rfl, _, rfl, _, rfl, b, d, S, n, z, k, rfl, h0, hb0, ht, fun t H1 s1 hh1 ht1 => ?_, fun H1 s1 => qe _ s1.bar⟩
  have ht10 := ht1
  obtain ⟨a, dx1, cz, e, cm, wt, kvs, rfl, ha, hed, he, hl, hk⟩ := ht1
  refine ⟨_, rfl, _, _, rfl, rfl, _, rfl, ite2 (fun c1 => ?_) (fun c1 => ⟨false, rfl, (by intro e; cases e), fun _ => qe _ s1.bar⟩)⟩
  refine ⟨_, rfl, a, dx1, tmF cz e cm wt, _, rfl, ha, rfl, e, rfl, .inl ⟨kvs, .inl he⟩, _, rfl, _, rfl, _, rfl, le2, fun p2 H2 hp2 s2 h2 => ⟨_, DGet.k (k := Sum.inl rc) (s2 _ _ he), _, rfl, _, rfl, le2, fun p3 H3 hp3 s3 h3 => ?_⟩⟩
  have s23 := s2.trans s3
  have s13 := s1.trans s23
  have hx : ∃ x : Str × Int, rP rS rI H3 ((valV kvs (Sum.inl rc)).getD (.ref p2)) x ∧ PyData.strOk x.1 = true := by
    cases hv : valV kvs (Sum.inl rc) with
    | none => exact ⟨(hz, pe), ⟨p2, _, _, rfl, s3 _ _ h2, rfl, rfl⟩, nz.str⟩
    | some v =>
      obtain ⟨kv, hm, rfl⟩ := valV_mem hv
      obtain ⟨x, hx, ho⟩ := hk kv hm
      exact ⟨x, mn s23 hx, ho⟩
  obtain ⟨x, hx, ho⟩ := hx
  refine ⟨Str × Int, rP rS rI, inferInstance, inferInstance, x, (hz, pe), hx, ⟨p3, _, _, rfl, h3, rfl, rfl⟩, ⟨ho, True.intro⟩, ⟨nz.str, True.intro⟩, by decide, _, rfl, fun c2 => ?_, fun _ => qe _ s13.bar⟩
  refine ⟨_, rfl, _, rfl, a, dx1, tmF cz e cm wt, _, rfl, s23 _ _ ha, rfl, e, _, rfl, DGet.k (k := Sum.inl rc) (s23 _ _ he), _, rfl, ite2 (fun c3 => qn _ s13.bar) (fun c3 => ?_)⟩
  refine ⟨[some (.ref b), some (.ref pt), some (.str z), some (.int k), some (.int rc), some (.str hz), some (.int pe), some (.ref a), none, none, none, none, none, none, none, none], rfl, ?_⟩
  refine ⟨_, rfl, b, dx, bkF S vc ve vs vk d, rfl, s13 _ _ hb, rfl, _, rfl, b, d, S, ppl, hz, rfl, hb0.mono s13, ok, fun a4 p4 us4 rs4 lf4 H4 s4 h4 g4 pr4 hl4 => ?_⟩
  refine ⟨a4, _, rfl, h4, rfl, _, _, rfl, _, _, rfl, rfl, ?_⟩
  have s34 := s23.trans s4
  have s14 := s1.trans s34
  refine ⟨_, rfl, a, dx1, tmF cz e cm wt, _, rfl, s34 _ _ ha, rfl, e, kvs, rfl, .inl (s34 _ _ he), fun e5 he5 => ?_⟩
  have s5 : Same H4 (upd H4 e5 (.dK kvs)) := Same.new he5
  refine ⟨_, rfl, _, rfl, le2, fun p6 H6 hp6 s6 h6 => ⟨_, rfl, _, rfl, e5, _, rfl, DPut.k (k := Sum.inl rc) (s6 _ _ upd_same) (line_lt (by omega)), ?_⟩⟩
  have he6 := s6 _ _ (upd_same (H := H4) (a := e5) (o := .dK kvs))
  have s46 := s5.trans s6
  have s47 : Same H4 (upd H6 e5 (.dK (putK kvs (Sum.inl rc) (.ref p6)))) := s46.mut he5
  have tk7 : Tk H6 (upd H6 e5 (.dK (putK kvs (Sum.inl rc) (.ref p6)))) := Tk.upd he6 fun _ z => by cases z
  generalize hH7 : upd H6 e5 (.dK (putK kvs (Sum.inl rc) (.ref p6))) = H7 at *
  have he7 : H7 e5 = some (.dK (putK kvs (Sum.inl rc) (.ref p6))) := by rw [← hH7]; exact upd_same
  have s17 := s34.trans s47
  have s07 := s14.trans s47
  have ha7 := s17 _ _ ha
  refine ⟨_, rfl, b, dx, bkF S vc ve vs vk d, rfl, s07 _ _ hb, rfl, _, rfl, _, rfl, _, rfl, a, dx1, tmF cz e cm wt, _, rfl, ha7, rfl, _, rfl, _, rfl, a, dx1, tmF cz e cm wt, _, rfl, ha7, rfl, _, rfl, a, dx1, tmF cz e cm wt, _, rfl, ha7, rfl, fun x8 dx8 hx8 hdx8 hne8 => ⟨x8, dx8, cz, e5, cm, wt, rfl, upd_same, rfl, ?_⟩⟩
  have s8 := same_make (o0 := .ins T.cTerm dx8 []) (o1 := .ins T.cTerm dx8 (tmF cz e5 cm wt)) hx8 hdx8
  have hed5 : e5 ≠ d := by
    obtain ⟨kd, gd, _⟩ := ht
    exact (ne_of_none (s14 _ _ gd) he5).symm
  have hT := mk_term (CT := T.cTerm) (z := cz) (c := cm) (w := wt) (n := n + 1) (o0 := .ins T.cTerm dx8 []) (d := d) hx8 hdx8 hed5 he7 (Nat.le_trans (length_putK _ _ _) (Nat.succ_le_succ hl)) (fun kv h => by
    rcases putK_mem h with u | u
    · obtain ⟨y, hy, hyo⟩ := hk kv u
      exact ⟨y, mn s17 hy, hyo⟩
    · exact ⟨(hz, pe), by rw [u]; exact ⟨p6, _, _, rfl, tk7 _ _ h6, rfl, rfl⟩, nz.str⟩)
  have s08 := s07.trans s8
  refine ⟨b, d, S, n, n + 1, z, k, _, rfl, hb0.mono s08, ht.mono s08, (hh1.mono s17).mono s8, Nat.le_succ _, hn, hT, fun H9 x9 hb9 ht9 => ?_⟩
  have x09 : Bar b d H H9 := Bar.trans s08.bar x9.r
  have hd9 : ∃ kv9, H9 d = some (.dK kv9) := let ⟨k9, g, _⟩ := ht9; ⟨k9, g⟩
  have tk89 : Tk _ H9 := x9.tk (fun xs e => by obtain ⟨k9, g, _⟩ := ht.mono s08; rw [g] at e; cases e) (fun xs e => by obtain ⟨k9, g, _⟩ := ht.mono s08; rw [g] at e; cases e)
  have tk09 : Tk H H9 := s08.tk.trans tk89
  have hb9' := hb9
  obtain ⟨dx9, vc9, ve9, vs9, vk9, g9, q1, q2, q3, ⟨ea, es, rfl, hea, pes⟩⟩ := hb9'
  have hesl : es.length = S.coming.length := pr_len pes
  have hpt9 := tk09 _ _ hpt
  refine ⟨_, rfl, b, dx9, _, _, rfl, g9, rfl, _, rfl, le1, fun p10 H10 hp10 s10 h10 => ⟨ea, p10, es, _, rfl, rfl, s10 _ _ hea, h10, by rw [hesl]; show S.coming.length + 1 ≤ 1000000; omega, fun p11 H11 s11 h11 => ?_⟩⟩
  have s911 := s10.trans s11
  refine ⟨_, rfl, b, dx9, _, rfl, s911 _ _ g9, bk_few, ?_⟩
  have hb11 := hb9.mono s911
  have br : Bar b b H11 (upd H11 b (.ins T.cBooks dx9 (putF "coming" (.ref p11) (bkF S vc9 ve9 vs9 (.ref ea) d)))) := Bar.put
  have tk12 := hb11.tk br
  have tk912 := s911.tk.trans tk12
  have hbN : IsBk T.cBooks (upd H11 b (.ins T.cBooks dx9 (putF "coming" (.ref p11) (bkF S vc9 ve9 vs9 (.ref ea) d)))) b d { S with coming := S.coming ++ [(z, k, rc, hz, pe)] } :=
    ⟨dx9, vc9, ve9, vs9, .ref p11, upd_same, Mon.go (A := rCounty) tk912 q1, Mon.go (A := rTL rS) tk912 q2, Mon.go (A := rTL rPRow) tk912 q3,
      ⟨p11, _, rfl, tk12 _ _ h11, pr_app (mnL tk912 pes) (.cons ⟨pt, _, _, _, _, _, rfl, tk912 _ _ hpt9, rfl, rfl, rfl, rfl, rfl⟩ .nil)⟩⟩
  have htN := (ht9.mono s911).bar hb11 br
  have okN : BkOk ppl { S with coming := S.coming ++ [(z, k, rc, hz, pe)] } := ⟨ok.co, ok.pos, ok.t0, ok.t1, ok.ex, ok.hold, ok.v0, ok.v1, ok.y0, ok.y1, ok.d0, ok.d1, ok.old, ok.slen, fun r hr => by
    rcases List.mem_append.mp hr with u | u
    · exact ok.come r u
    · rw [List.mem_singleton.mp u]; exact hin, by rw [List.length_append]; show S.coming.length + 1 ≤ 1000; omega⟩
  have x012 : Bar b d H (upd H11 b (.ins T.cBooks dx9 (putF "coming" (.ref p11) (bkF S vc9 ve9 vs9 (.ref ea) d)))) := Bar.trans x09 (Bar.trans s911.bar br.l)
  have hbb := hbN
  obtain ⟨dxN, _, _, _, _, gN, _⟩ := hbb
  have nb4 : p4 ≠ b := ne_of (s4 _ _ (s13 _ _ hb) |> fun _ => g4) (s14 _ _ hb) (by intro z; cases z)
  have n4d : p4 ≠ d := by
    obtain ⟨kd, gd, _⟩ := ht
    exact ne_of g4 (s14 _ _ gd) (by intro z; cases z)
  have g12 : upd H11 b (.ins T.cBooks dx9 (putF "coming" (.ref p11) (bkF S vc9 ve9 vs9 (.ref ea) d))) p4 = some (.lst us4) := by
    rw [upd_ne nb4]
    exact s911 _ _ (x9 _ _ n4d n4d (s8 _ _ (s47 _ _ g4)))
  have pr12 := mnL (A := rARow) ((s47.trans s8).tk.trans (tk89.trans tk912)) pr4
  generalize upd H11 b (.ins T.cBooks dx9 (putF "coming" (.ref p11) (bkF S vc9 ve9 vs9 (.ref ea) d))) = H12 at *
  refine ⟨_, rfl, b, dxN, _, rfl, gN, rfl, _, rfl, b, d, _, ppl, hz, rfl, hbN, okN, fun a13 p13 us13 rs13 lf13 H13 s13' h13 g13 pr13 hl13 => ?_⟩
  refine ⟨a13, _, rfl, h13, rfl, _, _, rfl, _, _, rfl, rfl, ?_⟩
  refine ⟨[some (.ref b), some (.ref pt), some (.str z), some (.int k), some (.int rc), some (.str hz), some (.int pe), some (.ref a), some (.ref p4), some (.int lf4), some (.ref e5), some (.ref p13), some (.int lf13), none, none, none], rfl, ?_⟩
  refine ⟨_, rfl, _, rfl, .l, .l, _, _, us4, us13, rfl, ⟨p4, rfl, SqL.of (s13' _ _ g12)⟩, ⟨p13, rfl, SqL.of g13⟩, fun D hD => ?_⟩
  refine lcS (A := rP rARow rARow) (B := rU) (ds := rs4.zip rs13) src_zip (fun x => decide (x.1.2 < x.2.2)) (fun _ => ()) hD (by rw [List.length_zip]; omega)
    (fun H14 s14 => ⟨okK_mono (s13'.trans s14) (k := .l) ⟨p4, rfl, us4, g12, pr12⟩, okK_mono s14 (k := .l) ⟨p13, rfl, us13, g13, pr13⟩⟩) (fun i y x H14 hd s14 r => ?_) fun acc H14 s14 hD14 pa => ?_
  · obtain ⟨T0, x1, x2, rfl, hT0, ⟨b1, rfl, f1⟩, ⟨b2, rfl, f2⟩⟩ := r
    refine ⟨T0, _, rfl, hT0, rfl, _, _, rfl, _, _, rfl, rfl, rfl, _, rfl, b2, _, 5, _, rfl, rfl, f2, rfl, _, rfl, b1, _, 5, _, rfl, rfl, f1, rfl, _, _, rfl, rfl, _, rfl, ite2 (fun c => ?_) (fun c => ?_)⟩
    · refine ⟨_, rfl, 4, rfl, b2, _, rfl, f2, fun p15 H15 s15 h15 => ?_⟩
      refine ⟨_, rfl, b2, _, 5, _, rfl, rfl, s15 _ _ f2, rfl, _, rfl, b1, _, 5, _, rfl, rfl, s15 _ _ f1, rfl, _, _, rfl, rfl, le1, fun p16 H16 hp16 s16 h16 => ⟨p15, p16, _, _, rfl, rfl, s16 _ _ h15, h16, ?_, fun p17 H17 s17 h17 => ⟨s15.trans (s16.trans s17), c, True.intro⟩⟩⟩
      have := cutV_length [V.int y.2.1.1, .int y.2.1.2.1, .str y.2.1.2.2.1, .int y.2.1.2.2.2.1, .int y.2.1.2.2.2.2, .int y.2.2] none (some 4)
      have e6 : ([V.int y.2.1.1, .int y.2.1.2.1, .str y.2.1.2.2.1, .int y.2.1.2.2.2.1, .int y.2.1.2.2.2.2, .int y.2.2]).length = 6 := rfl
      show _ + 1 ≤ 1000000
      omega
    · exact ⟨Same.refl _, by cases q : decide (y.1.2 < y.2.2) with | true => exact absurd q c | false => rfl⟩
  have hal : acc.length ≤ 28800 := by
    rw [pr_len pa, List.length_map]
    refine Nat.le_trans (List.length_filter_le _ _) ?_
    rw [List.length_zip]
    omega
  refine ⟨_, rfl, D, acc, rfl, hD14, fun p15 H15 hp15 s15 h15 => ?_⟩
  refine ⟨_, rfl, _, rfl, _, _, rfl, rfl, le2, fun p16 H16 hp16 s16 h16 => ⟨le1, fun p17 H17 hp17 s17 h17 => ⟨p15, p17, acc, _, rfl, rfl, s17 _ _ (s16 _ _ h15), h17, by show acc.length + 1 ≤ 1000000; omega, fun p18 H18 s18 h18 => ?_⟩⟩⟩
  have sE := s13'.trans (s14.trans (s15.trans (s16.trans (s17.trans s18))))
  exact q _ _ (Bar.trans x012 sE.bar) (hbN.mono sE) (htN.mono sE) ⟨_, h18⟩
end
end K5
set_option maxHeartbeats 1000000
namespace K5
open PySem PySem.Spec PyProof.Rows L2
instance : DecidableEq House := inferInstanceAs (DecidableEq (Str × Int × List (Str × Int × Int)))
instance : DecidableEq Parish := inferInstanceAs (DecidableEq (Str × List House))
instance : DecidableEq County := inferInstanceAs (DecidableEq (List Parish))
theorem county_dat {c : County} (ok : CountyOk c) : Dat.ok rCounty c := fun p hp => ⟨(ok.all p hp).nm.str, fun h hh => ⟨((ok.all p hp).all h hh).nm.str, True.intro, fun x hx => ⟨(((ok.all p hp).all h hh).all x hx).nm.str, True.intro, True.intro⟩⟩⟩
theorem putK_mem2 {kvs : List (Key × V)} {k : Key} {v : V} {kv : Key × V} (h : kv ∈ putK kvs k v) : kv ∈ kvs ∨ (kv.1 = k ∧ kv.2 = v) := by
  unfold putK at h
  split at h
  · obtain ⟨x, hx, rfl⟩ := List.mem_map.mp h
    by_cases e : x.1 = k
    · rw [if_pos e]; exact .inr ⟨e, rfl⟩
    · rw [if_neg e]; exact .inl hx
  · rcases List.mem_append.mp h with z | z
    · exact .inl z
    · rw [List.mem_singleton.mp z]
      exact .inr ⟨rfl, rfl⟩
def spDoWorth (CB C : Addr) : Sp := fun vs H Q E => ∃ b d S ppl n wo pt, vs = [.ref b, .ref pt] ∧ IsBk CB H b d S ∧ BkOk ppl S ∧ H pt = some (.tup [.str n, .int wo]) ∧ NameOk n ∧ 0 ≤ wo ∧ wo ≤ 9999 ∧
  (∀ H', Same H H' → withWorth S.county n wo = S.county → Q .non H') ∧
  (∀ H' v, Bar b b H H' → n ∈ (allHouses S.county).map (·.1) → posC (withWorth S.county n wo) = true → IsBk CB H' b d { S with county := withWorth S.county n wo } →
    rTL (rT3 rS rI rI) H' v (changedOf (sumsH S.county S.total) (sumsH (withWorth S.county n wo) S.total)) → Q v H') ∧
  (∀ H', Same H H' → ¬ (n ∈ (allHouses S.county).map (·.1) ∧ posC (withWorth S.county n wo) = true) → E (.ref C) none H')
def spDoDemand (CB C : Addr) : Sp := fun vs H Q E => ∃ b d S ppl k pt, vs = [.ref b, .ref pt] ∧ IsBk CB H b d S ∧ BkOk ppl S ∧ H pt = some (.tup [.int k]) ∧ 1 ≤ k ∧ k ≤ 2 ∧
  (k ≤ S.halves → Q .non H) ∧
  (∀ H' a, Bar b b H H' → k = S.halves + 1 → IsBk CB H' b d { S with halves := k } → (∃ xs, H' a = some (.tup xs)) → Q (.ref a) H') ∧
  (¬ k ≤ S.halves + 1 → E (.ref C) none H)
section
variable {P : Program} {w : World} {K : PySem.W.Frag} {mg : Str → Option Value} {base : Heap}
abbrev N_do_worth : List Str := ["books", "parts", "refused", "found", "e", "ahead", "behind"]
theorem sc_do_worth : FnScope N_do_worth ["books", "parts"] (defScope (top 78)) := ⟨rfl, rfl, rfl, by decide +kernel, rfl, by decide +kernel, by decide +kernel⟩
theorem c_do_worth (T : Txt w K mg) : Cl P w K mg base (L2.CX P w) 7 "do_worth" (spDoWorth T.cBooks T.eBadDeed) := by
  refine Cl.of T.d_do_worth sc_do_worth (fun _ _ _ _ _ _ us h => by obtain ⟨u0, u1, rfl⟩ := len2 h; rfl) (fun vs H Q E h => by obtain ⟨b, d, S, ppl, n, wo, pt, rfl, hb, ok, hpt, nn, h0, h1, qn, q, qe⟩ := h; rfl) fun f cdv A outer s H vs Q E hr h => ?_
  obtain ⟨b, d, S, ppl, n, wo, pt, rfl, hb, ok, hpt, nn, h0, h1, qn, q, qe⟩ := h
  refine ⟨_, (pss_cons (ps_set (i := 2) sc_do_worth.nd rfl (Or.inl rfl) pe_non)
  (pss_cons (ps_set (i := 3) sc_do_worth.nd rfl (Or.inl rfl) pe_non)
  (pss_cons (ps_try_as (i := 4) rfl rfl sc_do_worth.nd rfl rfl ⟨rfl, by decide, .inl T.g_BadAppeal⟩ (takes_of rfl rfl rfl rfl) (fun W pn xe tk _ => pss_one (ps_set (i := 3) sc_do_worth.nd rfl (Or.inl rfl) (pcS tk (c_won_so T) (hr.mono (by decide)) (pa_cons (pe_fldS T.cl_Books T.n_Books_of_county (pv 0) rfl) (pa_cons (pv 1) pa_nil))))) (fun a oe cls dd pn _ _ => pss_one (ps_set (i := 2) sc_do_worth.nd rfl (Or.inl rfl) (pv 4))))
  (pss_cons (ps_expr (pc (c_need T) (hr.mono (by decide)) (passes_call (takes_of rfl rfl rfl rfl) fun _ _ _ _ h => h) (pa_cons (pe_cmpR op_isN (pv 2) pe_non (nomark _)) pa_nil)))
  (pss_cons (ps_if (pt_cmpR (op_eqT hr.units) (pv 3) (pe_fldS T.cl_Books T.n_Books_of_county (pv 0) rfl) (nomark _)) (pss_one (ps_ret pe_non)) pss_nil)
  (pss_cons (ps_par (i := 5) (j := 6) rfl sc_do_worth.nd rfl rfl (by decide) rfl rfl (pa_cons (pc (c_sums_of_houses T) (hr.mono (by decide)) pass0 (pa_cons (pe_fldS T.cl_Books T.n_Books_of_county (pv 0) rfl) (pa_cons (pe_fldS T.cl_Books T.n_Books_of_total (pv 0) rfl) pa_nil))) (pa_cons (pc (c_sums_of_houses T) (hr.mono (by decide)) pass0 (pa_cons (pv 3) (pa_cons (pe_fldS T.cl_Books T.n_Books_of_total (pv 0) rfl) pa_nil))) pa_nil)) (by rfl))
  (pss_cons (ps_fldS T.cl_Books T.n_Books_of_county (pv 0) (pv 3) rfl)
  (pss_one (ps_ret (pc (c_changed T) (hr.mono (by decide)) pass0 (pa_cons (pv 5) (pa_cons (pv 6) pa_nil)))))))))))), ?_⟩
  have hb0 := hb
  obtain ⟨dx, vc, ve, vs, vk, hb, r1, r2, r3, r4⟩ := hb
  refine ⟨_, rfl, b, dx, _, _, rfl, hb, rfl, _, rfl, S.county, vc, _, n, wo, pt, rfl, r1, ok.co, rfl, hpt, nn, h0, h1, fun v H1 s1 rv hin hpos => ?_, fun H1 s1 hno => ?_⟩
  · refine ⟨_, rfl, rfl, _, rfl, fun _ => ?_, fun e => by simp at e⟩
    refine ⟨_, rfl, _, rfl, b, dx, _, _, rfl, s1 _ _ hb, rfl, County, rCounty, inferInstance, inferInstance, withWorth S.county n wo, S.county, rv, mn s1 r1, county_dat (withWorth_ok ok.co h0 h1), county_dat ok.co, by decide, _, rfl, ite2 (fun e => qn _ s1 (of_decide_eq_true e)) (fun _ => ?_)⟩
    have okw := withWorth_ok ok.co (n := n) h0 h1
    refine ⟨_, rfl, b, dx, _, _, rfl, s1 _ _ hb, rfl, _, rfl, b, dx, _, _, rfl, s1 _ _ hb, rfl, S.county, S.total, ⟨vc, rfl, mn s1 r1, ok.co, ok.pos, ok.t0, ok.t1⟩, fun p2 us2 H2 s2 hp2 h2 pu2 => ?_⟩
    have s12 := s1.trans s2
    refine ⟨_, rfl, _, rfl, b, dx, _, _, rfl, s12 _ _ hb, rfl, withWorth S.county n wo, S.total, ⟨v, rfl, mn s2 rv, okw, hpos, ok.t0, ok.t1⟩, fun p3 us3 H3 s3 hp3 h3 pu3 => ⟨_, _, rfl, ?_⟩⟩
    have s13 := s12.trans s3
    refine ⟨_, rfl, _, rfl, b, dx, _, rfl, s13 _ _ hb, bk_few, ?_⟩
    have br : Bar b b H3 (upd H3 b (.ins T.cBooks dx (putF "of_county" v (bkF S vc ve vs vk d)))) := Bar.put
    have hb3 := hb0.mono s13
    have tk6 := hb3.tk br
    have tk := s13.tk.trans tk6
    have hbN : IsBk T.cBooks (upd H3 b (.ins T.cBooks dx (putF "of_county" v (bkF S vc ve vs vk d)))) b d { S with county := withWorth S.county n wo } :=
      ⟨dx, v, ve, vs, vk, upd_same, Mon.go (A := rCounty) ((s2.trans s3).tk.trans tk6) rv, Mon.go (A := rTL rS) tk r2, Mon.go (A := rTL rPRow) tk r3, Mon.go (A := rTL rRec) tk r4⟩
    have n2b : p2 ≠ b := ne_of (s3 _ _ h2) (s13 _ _ hb) (by intro z; cases z)
    have n3b : p3 ≠ b := ne_of h3 (s13 _ _ hb) (by intro z; cases z)
    have hl := ok.co.len
    refine ⟨_, rfl, _, rfl, p2, p3, us2, us3, _, _, rfl, by rw [upd_ne n2b]; exact s3 _ _ h2, by rw [upd_ne n3b]; exact h3, mnL (s3.tk.trans tk6) pu2, mnL tk6 pu3, by rw [sumsH_len]; omega, fun v4 H4 s4 r4 => ?_⟩
    exact q H4 v4 (Bar.trans s13.bar (Bar.trans br s4.bar)) hin hpos (hbN.mono s4) r4
  · refine ⟨true, T.m_BadAppeal, fun _ a ha => ?_, fun e => by cases e⟩
    exact ⟨_, rfl, _, rfl, rfl, _, rfl, fun e => by simp at e, fun _ => qe _ s1 hno⟩
abbrev N_do_demand : List Str := ["books", "parts", "found", "holder", "row"]
theorem sc_do_demand : FnScope N_do_demand ["books", "parts"] (defScope (top 79)) := ⟨rfl, rfl, rfl, by decide +kernel, rfl, by decide +kernel, by decide +kernel⟩
theorem c_do_demand (T : Txt w K mg) : Cl P w K mg base (L2.CX P w) 7 "do_demand" (spDoDemand T.cBooks T.eBadDeed) := by
  refine Cl.of T.d_do_demand sc_do_demand (fun _ _ _ _ _ _ us h => by obtain ⟨u0, u1, rfl⟩ := len2 h; rfl) (fun vs H Q E h => by obtain ⟨b, d, S, ppl, k, pt, rfl, hb, ok, hpt, k0, k1, qn, q, qe⟩ := h; rfl) fun f cdv A outer s H vs Q E hr h => ?_
  obtain ⟨b, d, S, ppl, k, pt, rfl, hb, ok, hpt, k0, k1, qn, q, qe⟩ := h
  refine ⟨_, (pss_cons (ps_expr (pc (c_need T) (hr.mono (by decide)) (passes_call (takes_of rfl rfl rfl rfl) fun _ _ _ _ h => h) (pa_cons (pe_cmpR op_le (pe_ix ix_tupS (pv 1) pe_int (fun _ _ => rfl)) (pe_op op_add (pe_fldS T.cl_Books T.n_Books_halves (pv 0) rfl) pe_int) (nomark _)) pa_nil)))
  (pss_cons (ps_if (pt_cmpR op_le (pe_ix ix_tupS (pv 1) pe_int (fun _ _ => rfl)) (pe_fldS T.cl_Books T.n_Books_halves (pv 0) rfl) (nomark _)) (pss_one (ps_ret pe_non)) pss_nil)
  (pss_cons (ps_fldS T.cl_Books T.n_Books_halves (pv 0) (pe_ix ix_tupS (pv 1) pe_int (fun _ _ => rfl)) rfl)
  (pss_cons (ps_set (i := 2) sc_do_demand.nd rfl (Or.inl rfl) pe_dnewK)
  (pss_cons (ps_for (passes_of rfl) rfl (pi_list (pm (c_Books_rows_of_half T) (hr.mono (by decide)) pass0 (pv 0) (pa_cons (pe_ix ix_tupS (pv 1) pe_int (fun _ _ => rfl)) pa_nil))) (pg_tupS (n := 2) rfl (pgs_cons (pg_name (i := 3) sc_do_demand.nd rfl (Or.inl rfl)) (pgs_cons (pg_name (i := 4) sc_do_demand.nd rfl (Or.inl rfl)) pgs_nil)))
  (pss_one (ps_dput (hu_of hr) (pv 2) (pv 3) (pe_op op_add (pe_dget2 (hu_of hr) (pv 2) (pv 3) pe_int ⟨rfl, rfl, rfl, rfl⟩) (pe_ix ix_tupS (pv 4) pe_int (fun _ _ => rfl))) rfl)))
  (pss_one (ps_ret (pe_callTy call_tupleS (by rfl) T.f_tuple boot_tuple (pa_cons (pe_sortedItems rfl (by rfl) T.f_sorted (pv 2)) pa_nil))))))))), ?_⟩
  have hb0 := hb
  have v0 := ok.v0
  obtain ⟨dx, vc, ve, vs, vk, hb, r1, r2, r3, r4⟩ := hb
  refine ⟨_, rfl, pt, _, 0, _, rfl, rfl, hpt, rfl, _, rfl, b, dx, _, _, rfl, hb, rfl, _, _, rfl, rfl, _, _, rfl, rfl, _, rfl, fun c1 => ?_, fun c1 => qe (of_decide_eq_false c1)⟩
  have c1 : k ≤ S.halves + 1 := of_decide_eq_true c1
  refine ⟨_, rfl, pt, _, 0, _, rfl, rfl, hpt, rfl, _, rfl, b, dx, _, _, rfl, hb, rfl, _, _, rfl, rfl, _, rfl, ite2 (fun c2 => qn (of_decide_eq_true c2)) (fun c2 => ?_)⟩
  have c2 : ¬ k ≤ S.halves := fun z => c2 (decide_eq_true z)
  refine ⟨_, rfl, pt, _, 0, _, rfl, rfl, hpt, rfl, _, rfl, b, dx, _, rfl, hb, bk_few, ?_⟩
  have br : Bar b b H (upd H b (.ins T.cBooks dx (putF "halves" (.int k) (bkF S vc ve vs vk d)))) := Bar.put
  have tk6 := hb0.tk br
  have hbN : IsBk T.cBooks (upd H b (.ins T.cBooks dx (putF "halves" (.int k) (bkF S vc ve vs vk d)))) b d { S with halves := k } :=
    ⟨dx, vc, ve, vs, vk, upd_same, Mon.go (A := rCounty) tk6 r1, Mon.go (A := rTL rS) tk6 r2, Mon.go (A := rTL rPRow) tk6 r3, Mon.go (A := rTL rRec) tk6 r4⟩
  have okN : BkOk ppl { S with halves := k } := ⟨ok.co, ok.pos, ok.t0, ok.t1, ok.ex, ok.hold, by show 0 ≤ k; omega, k1, ok.y0, ok.y1, ok.d0, ok.d1, ok.old, ok.slen, ok.come, ok.clen⟩
  have hpt1 := tk6 _ _ hpt
  have hbb := hbN
  obtain ⟨dx1, _, _, _, _, g1, _⟩ := hbb
  generalize upd H b (.ins T.cBooks dx (putF "halves" (.int k) (bkF S vc ve vs vk d))) = H1 at *
  refine fun dd hdd => ?_
  have s2 : Same H1 (upd H1 dd (.dK [])) := Same.new hdd
  have hd2 := upd_same (H := H1) (a := dd) (o := .dK [])
  generalize upd H1 dd (.dK []) = H2 at *
  refine ⟨_, rfl, b, dx1, _, rfl, s2 _ _ g1, rfl, _, rfl, pt, _, 0, _, rfl, rfl, s2 _ _ hpt1, rfl, b, d, _, ppl, k, rfl, hbN.mono s2, okN, fun p3 us3 H3 s3 hp3 h3 pu3 => ?_⟩
  have n3d : p3 ≠ dd := (ne_of_none hd2 hp3).symm
  have hrl := okN.rlen k
  refine ⟨p3, rfl, ⟨us3, SqL.of h3⟩, ?_⟩
  refine forS (A := rPRow) (ds := ({ S with halves := k } : Bk).rows k) src_list (Pv := fun i σ H6 => ∃ x3 x4 kvs, σ = [some (.ref b), some (.ref pt), some (.ref dd), x3, x4] ∧ Same H1 H6 ∧ H6 dd = some (.dK kvs) ∧ kvs.length ≤ i ∧ (∀ kv ∈ kvs, (∃ z : Str, kv.1 = Sum.inr z) ∧ ∃ i : Int, kv.2 = .int i) ∧ OkL rPRow p3 (({ S with halves := k } : Bk).rows k) H6) ?_ ?_ ?_ ?_
  · exact ⟨_, _, [], rfl, s2.trans s3, s3 _ _ hd2, Nat.le_refl _, (fun kv h => by cases h), us3, h3, pu3⟩
  · rintro i σ H6 hi ⟨x3, x4, kvs, rfl, s6, d6, l6, p6, o6⟩
    exact o6
  · rintro i y x σ H6 H7 hd ⟨x3, x4, kvs, rfl, s6, d6, l6, p6, o6⟩ s7 r
    have hi := lt_of_get hd
    obtain ⟨T0, y1, y2, rfl, hT, rfl, ⟨a5, w1, w2, w3, w4, w5, rfl, h5, rfl, rfl, rfl, rfl, rfl⟩⟩ := r
    refine ⟨T0, _, rfl, hT, rfl, _, _, rfl, _, _, rfl, rfl, ?_⟩
    have d7 := s7 _ _ d6
    have hv : ∃ j : Int, (valV kvs (Sum.inr y.1)).getD (V.int 0) = .int j := by
      cases hv : valV kvs (Sum.inr y.1) with
      | none => exact ⟨0, rfl⟩
      | some v =>
        obtain ⟨kv, hm, rfl⟩ := valV_mem hv
        exact (p6 kv hm).2
    obtain ⟨j, ej⟩ := hv
    refine ⟨_, rfl, dd, rfl, .inl ⟨kvs, .inl d7⟩, _, rfl, _, DGet.k (k := Sum.inr y.1) d7, ?_⟩
    rw [ej]
    refine ⟨_, rfl, a5, _, 4, _, rfl, rfl, h5, rfl, _, _, rfl, rfl, _, rfl, _, rfl, dd, _, rfl, DPut.k (k := Sum.inr y.1) d7 (line_lt (by omega)), ?_⟩
    have s17 := s6.trans s7
    refine ⟨_, _, _, rfl, s17.mut hdd, upd_same, ?_, fun kv hkv => ?_, ?_⟩
    · have := length_putK kvs (Sum.inr y.1) (V.int (j + y.2.2.2.2.2))
      show _ ≤ i + 1
      exact Nat.le_trans this (by omega)
    · rcases putK_mem2 hkv with u | ⟨u1, u2⟩
      · exact p6 kv u
      · exact ⟨⟨y.1, u1⟩, _, u2⟩
    · obtain ⟨zs, hz, pz⟩ := o6
      exact ⟨zs, by rw [upd_ne n3d]; exact s7 _ _ hz, mnL (s7.tk.trans (Tk.upd d7 fun _ z => by cases z)) pz⟩
  · rintro σ H6 ⟨x3, x4, kvs, rfl, s6, d6, l6, p6, o6⟩
    refine ⟨_, rfl, dd, kvs, rfl, d6, by omega, p6, fun p7 us7 H7 s7 hp7 h7 l7 => ⟨p7, us7, rfl, h7, fun p8 H8 hp8 s8 h8 => ?_⟩⟩
    have s18 := s6.trans (s7.trans s8)
    exact q H8 p8 (Bar.trans br s18.bar) (by omega) (hbN.mono s18) ⟨us7, h8⟩
end
end K5
set_option maxHeartbeats 1000000
namespace K5
open PySem PySem.Spec PyProof.Rows L2
def closeH (h : House) : List Hold := (h.2.2.filter fun x => decide (x.2.2 = 360)).map fun x => (x.1, 1, 360)
theorem close_ok {ppl : List Str} {h : House} (ok : HouseOk h) (hp : ∀ x ∈ h.2.2, x.1 ∈ ppl) : HsOk ppl (closeH h) := by
  unfold closeH
  have pw := (apart_pw ok.all ok.apart).sublist (List.filter_sublist (p := fun x : Hold => decide (x.2.2 = 360)))
  have hm : ∀ x ∈ h.2.2.filter (fun x : Hold => decide (x.2.2 = 360)), x ∈ h.2.2 ∧ x.2.2 = 360 := fun x hx => ⟨(List.mem_filter.mp hx).1, of_decide_eq_true (List.mem_filter.mp hx).2⟩
  generalize h.2.2.filter (fun x : Hold => decide (x.2.2 = 360)) = F at *
  match F, pw, hm with
  | [], _, _ => exact ⟨Nat.zero_le _, (fun x h => by cases h), (fun x h => by cases h), fun x h => by cases h⟩
  | [x], _, hm =>
    have m := hm x List.mem_cons_self
    refine ⟨(by show 1 ≤ 12; decide), fun y hy => ?_, (fun y hy => by cases hy), fun y hy => ?_⟩
    · rw [List.mem_singleton.mp hy]
      exact ⟨(ok.all x m.1).nm, Int.le_refl _, (by show (1 : Int) ≤ 360; decide), Int.le_refl _⟩
    · rw [List.mem_singleton.mp hy]
      exact hp x m.1
  | x :: y :: F, pw, hm =>
    have m := hm x List.mem_cons_self
    have m2 := hm y (List.mem_cons_of_mem _ List.mem_cons_self)
    have b : x.2.2 < y.2.1 := (List.pairwise_cons.mp pw).1 y List.mem_cons_self
    have := (ok.all y m2.1).mid
    omega
theorem rowsOf_year {c : County} {t : Int} {ex : List Str} {y k : Int} {h : House} {r : Str × Row} (hr : r ∈ rowsOf c t ex y k h) : r.2.1 = y := by
  unfold rowsOf at hr
  obtain ⟨x, hx, rfl⟩ := List.mem_map.mp hr
  rfl
theorem rows_year {S : Bk} {k : Int} {r : Str × Row} (hr : r ∈ S.rows k) : r.2.1 = S.year := by
  unfold Bk.rows rowsHalf at hr
  obtain ⟨l, hl, hx⟩ := List.mem_flatten.mp hr
  obtain ⟨h, hh, rfl⟩ := List.mem_map.mp hl
  exact rowsOf_year hx
theorem close_bk {ppl : List Str} {S : Bk} {c : County} {s : Int} (ok : BkOk ppl S) (g : CGood ppl c) (h2 : S.halves = 2) (hy : S.year < 20) (s0 : 0 ≤ s) (s1 : s ≤ 1000000000) :
    BkOk ppl { S with year := S.year + 1, day := 1, halves := 0, total := s, shut := S.all, county := c } := by
  have y0 := ok.y0
  refine ⟨g.co, g.pos, s0, s1, ok.ex, g.hold, Int.le_refl _, by show (0 : Int) ≤ 2; decide, by show 1 ≤ S.year + 1; omega, by show S.year + 1 ≤ 20; omega, Int.le_refl _, by show (1 : Int) ≤ 360; decide, fun r hr => ?_, ?_, ok.come, ok.clen⟩
  · refine ⟨?_, ok.aname hr⟩
    show r.2.1 < S.year + 1
    have hr : r ∈ S.all := hr
    unfold Bk.all at hr
    rcases List.mem_append.mp hr with z | z
    · have := (ok.old r z).1
      omega
    · obtain ⟨l, hl, hx⟩ := List.mem_flatten.mp z
      obtain ⟨i, _, rfl⟩ := List.mem_map.mp hl
      rw [rows_year hx]
      omega
  · show (S.all.length : Int) ≤ 1440 * (S.year + 1 - 1)
    unfold Bk.all
    rw [List.length_append]
    have h1 := flat_len (f := fun i : Nat => S.rows ((i : Int) + 1)) (n := 720) (l := List.range S.halves.toNat) fun x _ => ok.rlen _
    rw [List.length_range, h2] at h1
    have h3 := ok.slen
    have : (2 : Int).toNat = 2 := rfl
    rw [this] at h1
    rw [h2]
    rw [this]
    omega
def spDoClose (CB C : Addr) : Sp := fun vs H Q E => ∃ b d S ppl s pt, vs = [.ref b, .ref pt] ∧ IsBk CB H b d S ∧ BkOk ppl S ∧ ppl.length < 64 ∧ H pt = some (.tup [.int s]) ∧
  (∀ H' a c', Bar b b H H' → CGood ppl c' → S.halves = 2 → S.year < 20 → IsBk CB H' b d { S with year := S.year + 1, day := 1, halves := 0, total := s, shut := S.all, county := c' } → (∃ xs, H' a = some (.tup xs)) → Q (.ref a) H') ∧
  (∀ H', Same H H' → E (.ref C) none H')
section
variable {P : Program} {w : World} {K : PySem.W.Frag} {mg : Str → Option Value} {base : Heap}
abbrev N_do_close : List Str := ["books", "parts", "due", "paid", "holder", "own", "house", "holdings", "row", "one"]
theorem sc_do_close : FnScope N_do_close ["books", "parts"] (defScope (top 80)) := ⟨rfl, rfl, rfl, by decide +kernel, rfl, by decide +kernel, by decide +kernel⟩
theorem c_do_close (T : Txt w K mg) : Cl P w K mg base (L2.CX P w) 9 "do_close" (spDoClose T.cBooks T.eBadDeed) := by
  refine Cl.of T.d_do_close sc_do_close (fun _ _ _ _ _ _ us h => by obtain ⟨u0, u1, rfl⟩ := len2 h; rfl) (fun vs H Q E h => by obtain ⟨b, d, S, ppl, s0, pt, rfl, hb, ok, hppl, hpt, q, qe⟩ := h; rfl) fun f cdv A outer s H vs Q E hr h => ?_
  obtain ⟨b, d, S, ppl, s0, pt, rfl, hb, ok, hppl, hpt, q, qe⟩ := h
  refine ⟨_, (pss_cons (ps_expr (pc (c_need T) (hr.mono (by decide)) (passes_call (takes_of rfl rfl rfl rfl) fun _ _ _ _ h => h) (pa_cons (pe_and (pe_cmpR op_eq (pe_fldS T.cl_Books T.n_Books_halves (pv 0) rfl) pe_int (nomark _)) (pe_one (pe_cmpR op_lt (pe_fldS T.cl_Books T.n_Books_on_year (pv 0) rfl) (C8.pe_gc rfl T.c_MOST_YEARS) (nomark _)))) pa_nil)))
  (pss_cons (ps_asg (pe_tupS (pa_cons pe_int (pa_cons pe_int pa_nil))) (pg_tupS (n := 2) rfl (pgs_cons (pg_name (i := 2) sc_do_close.nd rfl (Or.inl rfl)) (pgs_cons (pg_name (i := 3) sc_do_close.nd rfl (Or.inl rfl)) pgs_nil))))
  (pss_cons (ps_for (passes_of rfl) rfl (pi_list (pm0 (c_Books_all_holders T) (hr.mono (by decide)) pass0 (pv 0))) (pg_name (i := 4) sc_do_close.nd rfl (Or.inl rfl))
  (pss_cons (ps_setLcS (i := 5) (own := [("row", 8)]) rfl sc_do_close.nd rfl rfl (sw_true rfl rfl rfl (by decide +kernel)) (pi_list (pe_ix ix_tupS (pm (c_Books_account_of T) (hr.mono (by decide)) pass0 (pv 0) (pa_cons (pv 4) pa_nil)) pe_int (fun _ _ => rfl))) (blkOk_by (own := [("row", 8)]) (N := N_do_close) (sc := defScope (top 80)) (by decide +kernel)) (fun _ _ _ _ _ => (pg_name (i := 8) sc_do_close.nd rfl (Or.inl rfl))) (fun _ _ _ _ _ => (pts_one (pt_cmpR op_eq (pe_ix ix_tupS (pv 8) pe_int (fun _ _ => rfl)) (pe_fldS T.cl_Books T.n_Books_on_year (pv 0) rfl) (nomark _)))) (fun _ _ _ _ _ => (pv 8)))
  (pss_cons (ps_set (i := 2) sc_do_close.nd rfl (Or.inl rfl) (pe_op op_add (pv 2) (pe_callB (cr_sumS rfl) (by rfl) T.f_sum boot_sum (pa_cons (pe_lcS (own := [("row", 8)]) (by rfl) sc_do_close.nd (pi_list (pv 5)) (blkOk_by (own := [("row", 8)]) (N := N_do_close) (sc := defScope (top 80)) (by decide +kernel)) (fun _ _ _ _ _ => (pg_name (i := 8) sc_do_close.nd rfl (Or.inl rfl))) (fun _ _ _ _ _ => pts_nil) (fun _ _ _ _ _ => (pe_ix ix_tupS (pv 8) pe_int (fun _ _ => rfl)))) pa_nil))))
  (pss_one (ps_set (i := 3) sc_do_close.nd rfl (Or.inl rfl) (pe_op op_add (pv 3) (pe_callB (cr_sumS rfl) (by rfl) T.f_sum boot_sum (pa_cons (pe_lcS (own := [("row", 8)]) (by rfl) sc_do_close.nd (pi_list (pv 5)) (blkOk_by (own := [("row", 8)]) (N := N_do_close) (sc := defScope (top 80)) (by decide +kernel)) (fun _ _ _ _ _ => (pg_name (i := 8) sc_do_close.nd rfl (Or.inl rfl))) (fun _ _ _ _ _ => pts_nil) (fun _ _ _ _ _ => (pe_ix ix_tupS (pv 8) pe_int (fun _ _ => rfl)))) pa_nil))))))))
  (pss_cons (ps_fldS T.cl_Books T.n_Books_shut (pv 0) (pe_callTy call_tupleS (by rfl) T.f_tuple boot_tuple (pa_cons (pm0 (c_Books_all_rows T) (hr.mono (by decide)) pass0 (pv 0)) pa_nil)) rfl)
  (pss_cons (ps_for (passes_of rfl) rfl (pi_list (pc (c_all_houses T) (hr.mono (by decide)) pass0 (pa_cons (pe_fldS T.cl_Books T.n_Books_of_county (pv 0) rfl) pa_nil))) (pg_name (i := 6) sc_do_close.nd rfl (Or.inl rfl))
  (pss_cons (ps_set (i := 7) sc_do_close.nd rfl (Or.inl rfl) (pe_callTy call_tupleS (by rfl) T.f_tuple boot_tuple (pa_cons (pe_lcS (own := [("one", 9)]) (by rfl) sc_do_close.nd (pi_tup (pe_ix ix_tupS (pv 6) pe_int (fun _ _ => rfl))) (blkOk_by (own := [("one", 9)]) (N := N_do_close) (sc := defScope (top 80)) (by decide +kernel)) (fun _ _ _ _ _ => (pg_name (i := 9) sc_do_close.nd rfl (Or.inl rfl))) (fun _ _ _ _ _ => (pts_one (pt_cmpR op_eq (pe_ix ix_tupS (pv 9) pe_int (fun _ _ => rfl)) (C8.pe_gc rfl T.c_LAST_DAY) (nomark _)))) (fun _ _ _ _ _ => (pe_tupS (pa_cons (pe_ix ix_tupS (pv 9) pe_int (fun _ _ => rfl)) (pa_cons pe_int (pa_cons (C8.pe_gc rfl T.c_LAST_DAY) pa_nil)))))) pa_nil)))
  (pss_one (ps_fldS T.cl_Books T.n_Books_of_county (pv 0) (pc (c_with_holdings T) (hr.mono (by decide)) pass0 (pa_cons (pe_fldS T.cl_Books T.n_Books_of_county (pv 0) rfl) (pa_cons (pe_ix ix_tupS (pv 6) pe_int (fun _ _ => rfl)) (pa_cons (pv 7) pa_nil)))) rfl))))
  (pss_cons (ps_asg (pe_tupS (pa_cons (pe_op op_add (pe_fldS T.cl_Books T.n_Books_on_year (pv 0) rfl) pe_int) (pa_cons pe_int (pa_cons pe_int (pa_cons (pe_ix ix_tupS (pv 1) pe_int (fun _ _ => rfl)) pa_nil))))) (pg_tupS (n := 4) rfl (pgs_cons (pg_fldS T.cl_Books T.n_Books_on_year (pv 0)) (pgs_cons (pg_fldS T.cl_Books T.n_Books_on_day (pv 0)) (pgs_cons (pg_fldS T.cl_Books T.n_Books_halves (pv 0)) (pgs_cons (pg_fldS T.cl_Books T.n_Books_of_total (pv 0)) pgs_nil))))))
  (pss_one (ps_ret (pe_tupS (pa_cons (pe_tupS (pa_cons (pv 2) (pa_cons (pv 3) pa_nil))) pa_nil)))))))))), ?_⟩
  have hb0 := hb
  obtain ⟨dx, vc, ve, vs, vk, hb, r1, r2, r3, r4⟩ := hb
  refine ⟨_, rfl, b, dx, _, _, rfl, hb, rfl, rfl, _, rfl, ite2 (fun c1 => ?_) (fun c1 => ⟨false, rfl, (by intro e; cases e), fun _ => qe _ (Same.refl _)⟩)⟩
  refine ⟨_, rfl, b, dx, _, _, rfl, hb, rfl, _, _, rfl, rfl, _, rfl, fun c2 => ?_, fun _ => qe _ (Same.refl _)⟩
  have c1 : S.halves = 2 := by
    have c1 : V.int S.halves = V.int 2 := of_decide_eq_true c1
    injection c1
  have c2 : S.year < 20 := of_decide_eq_true c2
  refine ⟨le2, fun p0 H0 hp0 s0' h0' => ⟨p0, _, rfl, h0', rfl, _, _, rfl, _, _, rfl, rfl, ?_⟩⟩
  refine ⟨_, rfl, b, dx, _, rfl, s0' _ _ hb, rfl, b, d, S, ppl, rfl, hb0.mono s0', ok, hppl, fun p1 ys H1 s1 hp1 h1 hl1 => ?_⟩
  have s1 := s0'.trans s1
  refine ⟨p1, rfl, ⟨_, SqL.of h1⟩, ?_⟩
  refine forS (A := rS) (ds := ys) src_list (Pv := fun i σ H6 => ∃ i2 i3 x4 x5, σ = [some (.ref b), some (.ref pt), some (.int i2), some (.int i3), x4, x5, none, none, none, none] ∧ Same H H6 ∧ OkL rS p1 ys H6) ?_ ?_ ?_ ?_
  · exact ⟨_, _, _, _, rfl, s1, _, h1, str_pr _⟩
  · rintro i σ H6 hi ⟨i2, i3, x4, x5, rfl, s6, o6⟩
    exact o6
  · rintro i y x σ H6 H7 hd ⟨i2, i3, x4, x5, rfl, s6, o6⟩ s7 r
    obtain rfl : x = .str y := r
    have s67 := s6.trans s7
    refine ⟨_, rfl, b, dx, _, rfl, s67 _ _ hb, rfl, _, rfl, b, d, S, ppl, y, rfl, hb0.mono s67, ok, fun a4 p4 us4 rs4 lf4 H8 s8 h4 g4 pr4 hl4 => ?_⟩
    have s68 := s67.trans s8
    refine ⟨a4, _, 0, _, rfl, rfl, h4, rfl, p4, rfl, ⟨us4, SqL.of g4⟩, fun D hD => ?_⟩
    refine lcS (A := rARow) (B := rARow) (ds := rs4) src_list (fun r => decide (r.1.1 = S.year)) (fun r => r) hD (by omega) (fun H9 s9 => okL_mono s9 ⟨us4, g4, pr4⟩) (fun j e x H9 he s9 r => ?_) fun acc H9 s9 hD9 pa => ?_
    · have rr := r
      obtain ⟨b1, rfl, f1⟩ := r
      refine ⟨rfl, _, rfl, b1, _, 0, _, rfl, rfl, f1, rfl, _, rfl, b, dx, _, _, rfl, s9 _ _ (s68 _ _ hb), rfl, rfl, _, rfl, ite2 (fun c => ?_) (fun c => ?_)⟩
      · have c : V.int e.1.1 = V.int S.year := of_decide_eq_true c
        injection c with c
        exact ⟨_, rfl, Same.refl _, decide_eq_true c, rr⟩
      · exact ⟨Same.refl _, decide_eq_false fun z => c (decide_eq_true (by rw [z]))⟩
    rw [List.map_id'] at pa
    have hfl : (rs4.filter fun r => decide (r.1.1 = S.year)).length ≤ 28800 := Nat.le_trans (List.length_filter_le _ _) hl4
    generalize rs4.filter (fun r => decide (r.1.1 = S.year)) = F at *
    refine ⟨_, rfl, _, rfl, D, rfl, ⟨acc, SqL.of hD9⟩, fun D2 hD2 => ?_⟩
    refine lcM (A := rARow) (B := rI) (ds := F) src_list (fun r => r.1.2.2.2.2) hD2 (by omega) (fun H10 s10 => okL_mono s10 ⟨acc, hD9, pa⟩) (fun j e x H10 he s10 r => ?_) fun acc2 H10 s10 hD10 pa2 => ?_
    · obtain ⟨b1, rfl, f1⟩ := r
      exact ⟨rfl, _, rfl, b1, _, 4, _, rfl, rfl, f1, rfl, Same.refl _, rfl⟩
    refine ⟨D2, acc2, _, rfl, hD10, pa2, _, _, rfl, rfl, ?_⟩
    refine ⟨_, rfl, _, rfl, D, rfl, ⟨acc, SqL.of (s10 _ _ hD9)⟩, fun D3 hD3 => ?_⟩
    refine lcM (A := rARow) (B := rI) (ds := F) src_list (fun r => r.2) hD3 (by omega) (fun H11 s11 => okL_mono (s10.trans s11) ⟨acc, hD9, pa⟩) (fun j e x H11 he s11 r => ?_) fun acc3 H11 s11 hD11 pa3 => ?_
    · obtain ⟨b1, rfl, f1⟩ := r
      exact ⟨rfl, _, rfl, b1, _, 5, _, rfl, rfl, f1, rfl, Same.refl _, rfl⟩
    have sE := s8.trans (s9.trans (s10.trans s11))
    exact ⟨D3, acc3, _, rfl, hD11, pa3, _, _, rfl, rfl, _, _, _, _, rfl, s67.trans sE, okL_mono (s7.trans sE) o6⟩
  rintro σ H2 ⟨i2, i3, x4, x5, rfl, s2, o2⟩
  refine ⟨_, rfl, b, dx, _, rfl, s2 _ _ hb, rfl, b, d, S, ppl, rfl, hb0.mono s2, ok, fun p3 us3 H3 s3 hp3 h3 pu3 => ?_⟩
  have s23 := s2.trans s3
  refine ⟨p3, us3, rfl, h3, fun p4 H4 hp4 s4 h4 => ?_⟩
  have s24 := s23.trans s4
  refine ⟨_, rfl, b, dx, _, rfl, s24 _ _ hb, bk_few, ?_⟩
  have br : Bar b b H4 (upd H4 b (.ins T.cBooks dx (putF "shut" (.ref p4) (bkF S vc ve vs vk d)))) := Bar.put
  have hb4 := hb0.mono s24
  have tk5 := hb4.tk br
  have tk := s24.tk.trans tk5
  have hbN : IsBk T.cBooks (upd H4 b (.ins T.cBooks dx (putF "shut" (.ref p4) (bkF S vc ve vs vk d)))) b d { S with shut := S.all } :=
    ⟨dx, vc, ve, .ref p4, vk, upd_same, Mon.go (A := rCounty) tk r1, Mon.go (A := rTL rS) tk r2, ⟨p4, us3, rfl, tk5 _ _ h4, mnL (s4.tk.trans tk5) pu3⟩, Mon.go (A := rTL rRec) tk r4⟩
  have x05 : Bar b b H (upd H4 b (.ins T.cBooks dx (putF "shut" (.ref p4) (bkF S vc ve vs vk d)))) := Bar.of s24
  have hpt5 := tk _ _ hpt
  have hbb := hbN
  obtain ⟨dx5, vc5, ve5, vs5, vk5, g5, q1, q2, q3, q4⟩ := hbb
  generalize upd H4 b (.ins T.cBooks dx (putF "shut" (.ref p4) (bkF S vc ve vs vk d))) = H5 at *
  have hc := ok.co.hi
  have hl := ok.co.len
  refine ⟨_, rfl, b, dx5, _, _, rfl, g5, rfl, vc5, S.county, rfl, q1, by omega, by omega, fun p6 us6 H6 s6 hp6 h6 pu6 => ?_⟩
  have n6b : p6 ≠ b := (ne_of_none g5 hp6).symm
  refine ⟨p6, rfl, ⟨us6, SqL.of h6⟩, ?_⟩
  refine forS (A := rHouse) (ds := allHouses S.county) src_list (Pv := fun i σ H7 => ∃ x6 x7 c', σ = [some (.ref b), some (.ref pt), some (.int i2), some (.int i3), x4, x5, x6, x7, none, none] ∧ Bar b b H5 H7 ∧ CGood ppl c' ∧ IsBk T.cBooks H7 b d { S with shut := S.all, county := c' } ∧ OkL rHouse p6 (allHouses S.county) H7) ?_ ?_ ?_ ?_
  · exact ⟨_, _, S.county, rfl, s6.bar, ok.good, hbN.mono s6, us6, h6, pu6⟩
  · rintro i σ H7 hi ⟨x6, x7, c', rfl, y7, g7, b7, o7⟩
    exact o7
  · rintro i h x σ H7 H8 hd ⟨x6, x7, c', rfl, y7, g7, b7, o7⟩ s8 r
    have hm := List.mem_of_getElem? hd
    have okh := ok.co.house h hm
    have hhl := okh.len
    obtain ⟨a, z1, z2, z3, rfl, ha, rfl, rfl, e2, vs2, rfl, he2, pv⟩ := r
    have hvl : vs2.length = h.2.2.length := pr_len pv
    refine ⟨_, rfl, a, _, 2, _, rfl, rfl, ha, rfl, e2, rfl, ⟨vs2, SqT.of he2⟩, fun D hD => ?_⟩
    refine lcS (A := rHold) (B := rHold) (ds := h.2.2) src_tup (fun x => decide (x.2.2 = 360)) (fun x => (x.1, 1, 360)) hD (by omega) (fun H9 s9 => okT_mono s9.tk ⟨vs2, he2, pv⟩) (fun j e x H9 he s9 r => ?_) fun acc H9 s9 hD9 pa => ?_
    · obtain ⟨a1, w1, w2, w3, rfl, f1, rfl, rfl, rfl⟩ := r
      refine ⟨rfl, _, rfl, a1, _, 2, _, rfl, rfl, f1, rfl, rfl, _, rfl, ite2 (fun c => ?_) (fun c => ?_)⟩
      · have c : V.int e.2.2 = V.int 360 := of_decide_eq_true c
        injection c with c
        exact ⟨_, rfl, a1, _, 0, _, rfl, rfl, f1, rfl, le3, fun p10 H10 hp10 s10 h10 => ⟨s10, decide_eq_true c, p10, _, _, _, rfl, h10, rfl, rfl, rfl⟩⟩
      · exact ⟨Same.refl _, decide_eq_false fun z => c (decide_eq_true (by rw [z]))⟩
    refine ⟨D, acc, rfl, hD9, fun p10 H10 hp10 s10 h10 => ?_⟩
    have s810 := s9.trans s10
    have s710 := s8.trans s810
    have b10 := b7.mono s710
    obtain ⟨dx7, vc7, ve7, vs7, vk7, g10, t1, t2, t3, t4⟩ := b10
    refine ⟨_, rfl, b, dx7, _, _, rfl, g10, rfl, _, rfl, a, _, 0, _, rfl, rfl, s810 _ _ ha, rfl, _, rfl, c', vc7, h.1, _, closeH h, rfl, t1, g7.co, ⟨p10, acc, rfl, h10, mnL s10.tk pa⟩, fun v11 H11 s11 r11 => ?_⟩
    refine ⟨_, rfl, b, dx7, bkF { S with shut := S.all, county := c' } vc7 ve7 vs7 vk7 d, rfl, s11 _ _ g10, bk_few, ?_⟩
    have s711 := s710.trans s11
    have b11 := b7.mono s711
    have br2 : Bar b b H11 (upd H11 b (.ins T.cBooks dx7 (putF "of_county" v11 (bkF { S with shut := S.all, county := c' } vc7 ve7 vs7 vk7 d)))) := Bar.put
    have tk12 := b11.tk br2
    have tk2 := s11.tk.trans tk12
    refine ⟨_, _, withHold c' h.1 (closeH h), rfl, Bar.trans y7 (Bar.trans s711.bar br2), withHold_ok g7 (close_ok okh (ok.hold h hm)), ⟨dx7, v11, ve7, vs7, vk7, upd_same, Mon.go (A := rCounty) tk12 r11, Mon.go (A := rTL rS) tk2 t2, Mon.go (A := rTL rPRow) tk2 t3, Mon.go (A := rTL rRec) tk2 t4⟩, ?_⟩
    obtain ⟨zs, hz, pz⟩ := o7
    exact ⟨zs, by rw [upd_ne n6b]; exact s711 _ _ hz, mnL (s711.tk.trans tk12) pz⟩
  · rintro σ H7 ⟨x6, x7, c', rfl, y7, g7, b7, o7⟩
    have tk57 := hbN.tk y7
    have b7' := b7
    obtain ⟨dx7, vc7, ve7, vs7, vk7, g8, t1, t2, t3, t4⟩ := b7'
    have hpt7 := tk57 _ _ hpt5
    refine ⟨_, rfl, b, dx7, _, _, rfl, g8, rfl, _, _, rfl, rfl, _, rfl, pt, _, 0, _, rfl, rfl, hpt7, rfl, le4, fun p9 H9 hp9 s9 h9 => ?_⟩
    refine ⟨p9, _, rfl, h9, rfl, _, _, rfl, _, rfl, b, dx7, bkF { S with shut := S.all, county := c' } vc7 ve7 vs7 vk7 d, rfl, s9 _ _ g8, bk_few, ?_⟩
    refine ⟨_, _, rfl, _, rfl, b, dx7, bkF { S with shut := S.all, county := c', year := S.year + 1 } vc7 ve7 vs7 vk7 d, rfl, upd_same, bk_few, ?_⟩
    refine ⟨_, _, rfl, _, rfl, b, dx7, bkF { S with shut := S.all, county := c', year := S.year + 1, day := 1 } vc7 ve7 vs7 vk7 d, rfl, upd_same, bk_few, ?_⟩
    refine ⟨_, _, rfl, _, rfl, b, dx7, bkF { S with shut := S.all, county := c', year := S.year + 1, day := 1, halves := 0 } vc7 ve7 vs7 vk7 d, rfl, upd_same, bk_few, rfl, ?_⟩
    rw [upd_upd, upd_upd, upd_upd]
    have b9 := b7.mono s9
    have br9 : Bar b b H9 (upd H9 b (.ins T.cBooks dx7 (bkF { S with shut := S.all, county := c', year := S.year + 1, day := 1, halves := 0, total := s0 } vc7 ve7 vs7 vk7 d))) := Bar.put
    have tk9 := s9.tk.trans (b9.tk br9)
    refine ⟨_, rfl, _, rfl, le2, fun p10 H10 hp10 s10 h10 => ⟨le1, fun p11 H11 hp11 s11 h11 => ?_⟩⟩
    have s1011 := s10.trans s11
    refine q H11 p11 c' (Bar.trans x05 (Bar.trans y7 (Bar.trans s9.bar (Bar.trans br9 s1011.bar)))) g7 c1 c2 (IsBk.mono s1011 ⟨dx7, vc7, ve7, vs7, vk7, upd_same, Mon.go (A := rCounty) tk9 t1, Mon.go (A := rTL rS) tk9 t2, Mon.go (A := rTL rPRow) tk9 t3, Mon.go (A := rTL rRec) tk9 t4⟩) ⟨_, h11⟩
end
end K5
set_option maxHeartbeats 1000000
namespace K5
open PySem PySem.Spec PyProof.Rows L2
inductive Deed where
  | day (k : Int)
  | come (n z : Str)
  | go (n : Str)
  | move (n m : Str)
  | excuse (z : Str)
  | charge (z : Str)
  | worth (n : Str) (w : Int)
  | demand (k : Int)
  | close (k : Int)
  | term (p c : Str)
  | pay (p : Str) (k r : Int) (h : Str) (e : Int)
  | hand (p : Str) (k e : Int)
  | pass (p : Str) (k e : Int)
def Deed.word : Deed → Str
  | .day _ => "day" | .come _ _ => "come" | .go _ => "go" | .move _ _ => "move" | .excuse _ => "excuse" | .charge _ => "charge" | .worth _ _ => "worth" | .demand _ => "demand" | .close _ => "close" | .term _ _ => "term"
  | .pay _ _ _ _ _ => "pay" | .hand _ _ _ => "hand" | .pass _ _ _ => "pass"
def Deed.parts : Deed → List V
  | .day k => [.int k] | .come n z => [.str n, .str z] | .go n => [.str n] | .move n m => [.str n, .str m] | .excuse z => [.str z] | .charge z => [.str z] | .worth n w => [.str n, .int w] | .demand k => [.int k] | .close k => [.int k]
  | .term p c => [.str p, .str c] | .pay p k r h e => [.str p, .int k, .int r, .str h, .int e] | .hand p k e => [.str p, .int k, .int e] | .pass p k e => [.str p, .int k, .int e]
/-- its texts are names; who comes or pays is one of the people -/
def Deed.Ok (ppl : List Str) : Deed → Prop
  | .day _ => True | .come n z => NameOk n ∧ NameOk z ∧ z ∈ ppl | .go n => NameOk n | .move n m => NameOk n ∧ NameOk m | .excuse z => NameOk z | .charge z => NameOk z | .worth n _ => NameOk n | .demand _ => True | .close _ => True
  | .term p c => NameOk p ∧ NameOk c | .pay p _ _ h _ => NameOk p ∧ NameOk h ∧ h ∈ ppl | .hand p _ _ => NameOk p | .pass p _ _ => NameOk p
def inB (lo hi i : Int) : Bool := decide (lo ≤ i ∧ i ≤ hi)
def Deed.form : Deed → Bool
  | .day k => inB 1 360 k | .come _ _ => true | .go _ => true | .move _ _ => true | .excuse _ => true | .charge _ => true | .worth _ w => inB 0 9999 w | .demand k => inB 1 2 k | .close k => inB 0 1000000000 k | .term _ _ => true
  | .pay _ k r _ e => inB 0 19 k && (inB 1 200 r && inB 0 1000000000 e) | .hand _ k e => inB 0 19 k && inB 0 1000000000 e | .pass _ k e => inB 0 19 k && inB 0 1000000000 e
theorem inB_iff {lo hi i : Int} : inB lo hi i = true ↔ lo ≤ i ∧ i ≤ hi := by unfold inB; exact decide_eq_true_iff
theorem form_day {k : Int} (h : (Deed.day k).form = true) : 1 ≤ k ∧ k ≤ 360 := inB_iff.mp h
theorem form_worth {n : Str} {k : Int} (h : (Deed.worth n k).form = true) : 0 ≤ k ∧ k ≤ 9999 := inB_iff.mp h
theorem form_demand {k : Int} (h : (Deed.demand k).form = true) : 1 ≤ k ∧ k ≤ 2 := inB_iff.mp h
theorem form_close {k : Int} (h : (Deed.close k).form = true) : 0 ≤ k ∧ k ≤ 1000000000 := inB_iff.mp h
theorem form_pay {p h : Str} {k r e : Int} (hf : (Deed.pay p k r h e).form = true) : 0 ≤ k := (inB_iff.mp (Bool.and_eq_true_iff.mp hf).1).1
theorem form_hand {p : Str} {k e : Int} (hf : (Deed.hand p k e).form = true) : 0 ≤ k := (inB_iff.mp (Bool.and_eq_true_iff.mp hf).1).1
theorem form_pass {p : Str} {k e : Int} (hf : (Deed.pass p k e).form = true) : 0 ≤ k := (inB_iff.mp (Bool.and_eq_true_iff.mp hf).1).1
def Deed.Step (S : Bk) (D : Deed) (S' : Bk) : Prop := match D with
  | .worth n w => S' = { S with county := withWorth S.county n w } ∧ n ∈ (allHouses S.county).map (·.1) ∧ posC (withWorth S.county n w) = true
  | .demand k => S' = { S with halves := k } ∧ k = S.halves + 1
  | .term _ _ => S' = S
  | _ => (S'.year = S.year ∧ S'.shut = S.shut) ∨ (S'.year = S.year + 1 ∧ S'.shut = S.all)
def Deed.Res (H : Hp) (S : Bk) (D : Deed) (v : V) : Prop := match D with
  | .worth n w => rTL (rT3 rS rI rI) H v (changedOf (sumsH S.county S.total) (sumsH (withWorth S.county n w) S.total))
  | _ => True
def Deed.NoneOk (S : Bk) (D : Deed) : Prop := match D with
  | .worth n w => withWorth S.county n w = S.county
  | .demand k => k ≤ S.halves
  | _ => True
def Deed.CanRaise (S : Bk) (n : Nat) (D : Deed) : Prop := match D with
  | .term p _ => ¬ (p ∈ S.county.map (·.1) ∧ n < 20)
  | .worth n w => ¬ (n ∈ (allHouses S.county).map (·.1) ∧ posC (withWorth S.county n w) = true)
  | .demand k => ¬ k ≤ S.halves + 1
  | _ => True
theorem Deed.Res.mono {H H' : Hp} {S : Bk} {D : Deed} {v : V} (s : Same H H') (h : D.Res H S v) : D.Res H' S v := by
  cases D with
  | worth n w => exact mn (A := rTL (rT3 rS rI rI)) s h
  | _ => exact True.intro
theorem day_bk {ppl : List Str} {S : Bk} {k : Int} (ok : BkOk ppl S) (h : 1 ≤ k ∧ k ≤ 360) : BkOk ppl { S with day := k } := ⟨ok.co, ok.pos, ok.t0, ok.t1, ok.ex, ok.hold, ok.v0, ok.v1, ok.y0, ok.y1, h.1, h.2, ok.old, ok.slen, ok.come, ok.clen⟩
theorem toc_bk {ppl : List Str} {S : Bk} {k : Int} (ok : BkOk ppl S) : BkOk ppl { S with toC := k } := ⟨ok.co, ok.pos, ok.t0, ok.t1, ok.ex, ok.hold, ok.v0, ok.v1, ok.y0, ok.y1, ok.d0, ok.d1, ok.old, ok.slen, ok.come, ok.clen⟩
theorem demand_bk {ppl : List Str} {S : Bk} {k : Int} (ok : BkOk ppl S) (h0 : 0 ≤ k) (h1 : k ≤ 2) : BkOk ppl { S with halves := k } := ⟨ok.co, ok.pos, ok.t0, ok.t1, ok.ex, ok.hold, h0, h1, ok.y0, ok.y1, ok.d0, ok.d1, ok.old, ok.slen, ok.come, ok.clen⟩
theorem worth_bk {ppl : List Str} {S : Bk} {n : Str} {w : Int} (ok : BkOk ppl S) (h0 : 0 ≤ w) (h1 : w ≤ 9999) (hp : posC (withWorth S.county n w) = true) : BkOk ppl { S with county := withWorth S.county n w } :=
  ⟨withWorth_ok ok.co h0 h1, hp, ok.t0, ok.t1, ok.ex, fun h hh x hx => by
    have hh : h ∈ allHouses (withWorth S.county n w) := hh
    rw [withWorth_houses] at hh
    obtain ⟨y, hy, rfl⟩ := List.mem_map.mp hh
    exact ok.hold y hy x hx, ok.v0, ok.v1, ok.y0, ok.y1, ok.d0, ok.d1, ok.old, ok.slen, ok.come, ok.clen⟩
theorem pay_bk {ppl : List Str} {S : Bk} {n : Nat} {r : Rec} (ok : BkOk ppl S) (hn : n + 1 ≤ 1000) (hl : S.coming.length ≤ n) (hr : r.2.2.2.1 ∈ ppl) : BkOk ppl { S with coming := S.coming ++ [r] } :=
  ⟨ok.co, ok.pos, ok.t0, ok.t1, ok.ex, ok.hold, ok.v0, ok.v1, ok.y0, ok.y1, ok.d0, ok.d1, ok.old, ok.slen, fun x hx => by
    rcases List.mem_append.mp hx with u | u
    · exact ok.come x u
    · rw [List.mem_singleton.mp u]; exact hr, by
    show (S.coming ++ [r]).length ≤ 1000
    rw [List.length_append]
    show S.coming.length + 1 ≤ 1000
    omega⟩
def spLed (CB CT C : Addr) : Sp := fun vs H Q E => ∃ (b d : Addr) (S : Bk) (n : Nat) (ppl : List Str) (t : Addr) (D : Deed), vs = [.ref b, .ref t] ∧ H t = some (.tup (.str D.word :: D.parts)) ∧ IsBk CB H b d S ∧ IsTerms CT H d n ∧ BkOk ppl S ∧ ppl.length < 64 ∧ S.coming.length ≤ n ∧ n + 1 ≤ 1000 ∧ D.Ok ppl ∧ D.form = true ∧
  (∀ H' a b2, Same H H' → D.NoneOk S → H' a = some (.tup [.ref b2, .non]) → Q (.ref a) H') ∧
  (∀ H' a b2 d2 S' x, Same H H' → H' a = some (.tup [.ref b2, .ref x]) → IsBk CB H' b2 d2 S' → IsTerms CT H' d2 (n + 1) → BkOk ppl S' → S'.coming.length ≤ n + 1 → D.Step S S' → D.Res H' S (.ref x) → Q (.ref a) H') ∧
  (∀ H', Same H H' → D.CanRaise S n → E (.ref C) none H')
section
variable {P : Program} {w : World} {K : PySem.W.Frag} {mg : Str → Option Value} {base : Heap}
abbrev N_led : List Str := ["books", "deed", "found", "word", "parts"]
theorem sc_led : FnScope N_led ["books", "deed"] (defScope (top 84)) := ⟨rfl, rfl, rfl, by decide +kernel, rfl, by decide +kernel, by decide +kernel⟩
theorem c_led (T : Txt w K mg) : Cl P w K mg base (L2.CX P w) 10 "led" (spLed T.cBooks T.cTerm T.eBadDeed) := by
  refine Cl.of T.d_led sc_led (fun _ _ _ _ _ _ us h => by obtain ⟨u0, u1, rfl⟩ := len2 h; rfl) (fun vs H Q E h => by obtain ⟨b, d, S, n, ppl, t, D, rfl, hT, hb, ht, ok, hppl, hcl, hn, hD, hf, qn, q, qe⟩ := h; rfl) fun f cdv A outer s H vs Q E hr h => ?_
  obtain ⟨b, d, S, n, ppl, t, D, rfl, hT, hb, ht, ok, hppl, hcl, hn, hD, hf, qn, q, qe⟩ := h
  refine ⟨_, (pss_cons (ps_par3 (i := 2) (j := 3) (l := 4) rfl sc_led.nd rfl rfl rfl (by decide) (by decide) (by decide) rfl rfl rfl (pa_cons (pm0 (c_Books_other T) (hr.mono (by decide)) pass0 (pv 0)) (pa_cons (pe_ix ix_tupS (pv 1) pe_int (fun _ _ => rfl)) (pa_cons (pe_slice sl_tupS (pv 1) (po_some pe_int) po_none) pa_nil))) (by rfl))
  (pss_cons (ps_if (pt_cmpR op_eq (pv 3) pe_str (nomark _)) (pss_one (ps_ret (pe_tupS (pa_cons (pv 2) (pa_cons (pc (c_do_day T) (hr.mono (by decide)) (passes_call (takes_of rfl rfl rfl rfl) fun _ _ _ _ h => h) (pa_cons (pv 2) (pa_cons (pv 4) pa_nil))) pa_nil))))) pss_nil)
  (pss_cons (ps_if (pt_cmpR op_inS (pv 3) (pe_tupS (pa_cons pe_str (pa_cons pe_str (pa_cons pe_str (pa_cons pe_str (pa_cons pe_str pa_nil)))))) rfl) (pss_one (ps_ret (pe_tupS (pa_cons (pv 2) (pa_cons (pc (c_do_people T) (hr.mono (by decide)) (passes_call (takes_of rfl rfl rfl rfl) fun _ _ _ _ h => h) (pa_cons (pv 2) (pa_cons (pv 3) (pa_cons (pv 4) pa_nil)))) pa_nil))))) pss_nil)
  (pss_cons (ps_if (pt_cmpR op_eq (pv 3) pe_str (nomark _)) (pss_one (ps_ret (pe_tupS (pa_cons (pv 2) (pa_cons (pc (c_do_worth T) (hr.mono (by decide)) (passes_call (takes_of rfl rfl rfl rfl) fun _ _ _ _ h => h) (pa_cons (pv 2) (pa_cons (pv 4) pa_nil))) pa_nil))))) pss_nil)
  (pss_cons (ps_if (pt_cmpR op_eq (pv 3) pe_str (nomark _)) (pss_one (ps_ret (pe_tupS (pa_cons (pv 2) (pa_cons (pc (c_do_demand T) (hr.mono (by decide)) (passes_call (takes_of rfl rfl rfl rfl) fun _ _ _ _ h => h) (pa_cons (pv 2) (pa_cons (pv 4) pa_nil))) pa_nil))))) pss_nil)
  (pss_cons (ps_if (pt_cmpR op_eq (pv 3) pe_str (nomark _)) (pss_one (ps_ret (pe_tupS (pa_cons (pv 2) (pa_cons (pc (c_do_close T) (hr.mono (by decide)) (passes_call (takes_of rfl rfl rfl rfl) fun _ _ _ _ h => h) (pa_cons (pv 2) (pa_cons (pv 4) pa_nil))) pa_nil))))) pss_nil)
  (pss_cons (ps_if (pt_cmpR op_eq (pv 3) pe_str (nomark _)) (pss_one (ps_ret (pe_tupS (pa_cons (pv 2) (pa_cons (pc (c_do_term T) (hr.mono (by decide)) (passes_call (takes_of rfl rfl rfl rfl) fun _ _ _ _ h => h) (pa_cons (pv 2) (pa_cons (pv 4) pa_nil))) pa_nil))))) pss_nil)
  (pss_one (ps_ret (pe_tupS (pa_cons (pv 2) (pa_cons (L2.PE.cl (pe_ifExp (pt_cmpR op_eq (pv 3) pe_str (nomark _)) (pc (c_do_pay T) (hr.mono (by decide)) (passes_call (takes_of rfl rfl rfl rfl) fun _ _ _ _ h => h) (pa_cons (pv 2) (pa_cons (pv 4) pa_nil))) (pc (c_do_hand T) (hr.mono (by decide)) (passes_call (takes_of rfl rfl rfl rfl) fun _ _ _ _ h => h) (pa_cons (pv 2) (pa_cons (pv 3) (pa_cons (pv 4) pa_nil)))))) pa_nil)))))))))))), ?_⟩
  have hb0 := hb
  obtain ⟨dx, vc, ve, vs, vk, hb, r⟩ := hb
  refine ⟨_, rfl, b, dx, _, rfl, hb, rfl, b, d, S, n, rfl, hb0, ht, fun b2 d2 H1 s1 hb2 hd2 hne hk ht2 => ⟨_, rfl, t, _, 0, _, rfl, rfl, s1 _ _ hT, at0, _, rfl, 1, rfl, t, _, rfl, s1 _ _ hT, fun p2 H3 s2 h2 => ⟨_, _, _, rfl, ?_⟩⟩⟩
  rw [show (1 : Int) = ((1 : Nat) : Int) from rfl, cut_drop] at h2
  have s13 := s2
  have s03 := s1.trans s13
  have hk3 := hk.mono s13
  have ht3 := ht2.mono s13
  have h23 : H3 p2 = some (.tup D.parts) := h2
  have hz : ∀ H4, Bar b2 d2 H3 H4 → Same H H4 := fun H4 x => Bar.same s03 x hb2 hd2
  have fin : ∀ H4 S4 a, Bar b2 d2 H3 H4 → IsBk T.cBooks H4 b2 d2 S4 → IsTerms T.cTerm H4 d2 (n + 1) → BkOk ppl S4 → S4.coming.length ≤ n + 1 → D.Step S S4 → D.Res H4 S (.ref a) → ∀ p5 H5, Same H4 H5 → H5 p5 = some (.tup [.ref b2, .ref a]) → Q (.ref p5) H5 :=
    fun H4 S4 a x4 hk4 ht4 ok4 hc4 st rs p5 H5 s5 h5 => q H5 p5 b2 d2 S4 a ((hz H4 x4).trans s5) h5 (hk4.mono s5) (ht4.mono s5) ok4 hc4 st (rs.mono s5)
  have finN : ∀ H4, Bar b2 d2 H3 H4 → D.NoneOk S → ∀ p5 H5, Same H4 H5 → H5 p5 = some (.tup [.ref b2, .non]) → Q (.ref p5) H5 := fun H4 x4 hno p5 H5 s5 h5 => qn H5 p5 b2 ((hz H4 x4).trans s5) hno h5
  have err : ∀ H4, Bar b2 d2 H3 H4 → D.CanRaise S n → E (.ref T.eBadDeed) none H4 := fun H4 x4 hc => qe H4 (hz H4 x4) hc
  cases D with
  | day k =>
    refine ⟨_, rfl, rfl, true, rfl, iteT ?_⟩
    refine ⟨_, rfl, _, rfl, _, rfl, b2, d2, S, k, p2, rfl, hk3, h23, fun H5 a x5 hlt hk5 h5 => ⟨le2, fun p9 H9 hp9 s9 h9 => ?_⟩, fun H5 x5 => err H5 x5.l True.intro⟩
    exact fin H5 { S with day := k } a x5.l hk5 ((ht3.bar hk3 x5).le (Nat.le_succ _)) (day_bk ok (form_day hf)) (Nat.le_trans hcl (Nat.le_succ _)) (.inl ⟨rfl, rfl⟩) True.intro p9 H9 s9 h9
  | come n1 z1 =>
    refine ⟨_, rfl, rfl, false, rfl, iteF ?_⟩
    refine ⟨_, rfl, le5, fun p4 H4 hp4 s4 h4 => ⟨p4, _, rfl, .inr h4, rfl, rfl, true, rfl, iteT ?_⟩⟩
    have s34 : Same H3 H4 := s4
    have hk4 := hk3.mono s34
    have ht4 := ht3.mono s34
    have h24 := s34 _ _ h23
    refine ⟨_, rfl, _, rfl, _, rfl, _, rfl, b2, d2, S, _, p2, ppl, _, rfl, hk4, ok, h24, (.inl ⟨rfl, n1, z1, rfl, hD.2.1, hD.2.2⟩), fun H5 c5 e5 a x5 g5 oe5 hk5 h5 => ⟨le2, fun p9 H9 hp9 s9 h9 => ?_⟩, fun H5 x5 => err H5 (Bar.trans s34.bar x5.l) True.intro⟩
    exact fin H5 _ a (Bar.trans s34.bar x5.l) hk5 ((ht4.bar hk4 x5).le (Nat.le_succ _)) (ok.cty g5 oe5) (Nat.le_trans hcl (Nat.le_succ _)) (.inl ⟨rfl, rfl⟩) True.intro p9 H9 s9 h9
  | go n1 =>
    refine ⟨_, rfl, rfl, false, rfl, iteF ?_⟩
    refine ⟨_, rfl, le5, fun p4 H4 hp4 s4 h4 => ⟨p4, _, rfl, .inr h4, rfl, rfl, true, rfl, iteT ?_⟩⟩
    have s34 : Same H3 H4 := s4
    have hk4 := hk3.mono s34
    have ht4 := ht3.mono s34
    have h24 := s34 _ _ h23
    refine ⟨_, rfl, _, rfl, _, rfl, _, rfl, b2, d2, S, _, p2, ppl, _, rfl, hk4, ok, h24, (.inr (.inl ⟨rfl, n1, rfl⟩)), fun H5 c5 e5 a x5 g5 oe5 hk5 h5 => ⟨le2, fun p9 H9 hp9 s9 h9 => ?_⟩, fun H5 x5 => err H5 (Bar.trans s34.bar x5.l) True.intro⟩
    exact fin H5 _ a (Bar.trans s34.bar x5.l) hk5 ((ht4.bar hk4 x5).le (Nat.le_succ _)) (ok.cty g5 oe5) (Nat.le_trans hcl (Nat.le_succ _)) (.inl ⟨rfl, rfl⟩) True.intro p9 H9 s9 h9
  | move n1 m1 =>
    refine ⟨_, rfl, rfl, false, rfl, iteF ?_⟩
    refine ⟨_, rfl, le5, fun p4 H4 hp4 s4 h4 => ⟨p4, _, rfl, .inr h4, rfl, rfl, true, rfl, iteT ?_⟩⟩
    have s34 : Same H3 H4 := s4
    have hk4 := hk3.mono s34
    have ht4 := ht3.mono s34
    have h24 := s34 _ _ h23
    refine ⟨_, rfl, _, rfl, _, rfl, _, rfl, b2, d2, S, _, p2, ppl, _, rfl, hk4, ok, h24, (.inr (.inr (.inl ⟨rfl, n1, m1, rfl⟩))), fun H5 c5 e5 a x5 g5 oe5 hk5 h5 => ⟨le2, fun p9 H9 hp9 s9 h9 => ?_⟩, fun H5 x5 => err H5 (Bar.trans s34.bar x5.l) True.intro⟩
    exact fin H5 _ a (Bar.trans s34.bar x5.l) hk5 ((ht4.bar hk4 x5).le (Nat.le_succ _)) (ok.cty g5 oe5) (Nat.le_trans hcl (Nat.le_succ _)) (.inl ⟨rfl, rfl⟩) True.intro p9 H9 s9 h9
  | excuse z1 =>
    refine ⟨_, rfl, rfl, false, rfl, iteF ?_⟩
    refine ⟨_, rfl, le5, fun p4 H4 hp4 s4 h4 => ⟨p4, _, rfl, .inr h4, rfl, rfl, true, rfl, iteT ?_⟩⟩
    have s34 : Same H3 H4 := s4
    have hk4 := hk3.mono s34
    have ht4 := ht3.mono s34
    have h24 := s34 _ _ h23
    refine ⟨_, rfl, _, rfl, _, rfl, _, rfl, b2, d2, S, _, p2, ppl, _, rfl, hk4, ok, h24, (.inr (.inr (.inr (.inl ⟨rfl, z1, rfl, hD⟩)))), fun H5 c5 e5 a x5 g5 oe5 hk5 h5 => ⟨le2, fun p9 H9 hp9 s9 h9 => ?_⟩, fun H5 x5 => err H5 (Bar.trans s34.bar x5.l) True.intro⟩
    exact fin H5 _ a (Bar.trans s34.bar x5.l) hk5 ((ht4.bar hk4 x5).le (Nat.le_succ _)) (ok.cty g5 oe5) (Nat.le_trans hcl (Nat.le_succ _)) (.inl ⟨rfl, rfl⟩) True.intro p9 H9 s9 h9
  | charge z1 =>
    refine ⟨_, rfl, rfl, false, rfl, iteF ?_⟩
    refine ⟨_, rfl, le5, fun p4 H4 hp4 s4 h4 => ⟨p4, _, rfl, .inr h4, rfl, rfl, true, rfl, iteT ?_⟩⟩
    have s34 : Same H3 H4 := s4
    have hk4 := hk3.mono s34
    have ht4 := ht3.mono s34
    have h24 := s34 _ _ h23
    refine ⟨_, rfl, _, rfl, _, rfl, _, rfl, b2, d2, S, _, p2, ppl, _, rfl, hk4, ok, h24, (.inr (.inr (.inr (.inr ⟨rfl, z1, rfl⟩)))), fun H5 c5 e5 a x5 g5 oe5 hk5 h5 => ⟨le2, fun p9 H9 hp9 s9 h9 => ?_⟩, fun H5 x5 => err H5 (Bar.trans s34.bar x5.l) True.intro⟩
    exact fin H5 _ a (Bar.trans s34.bar x5.l) hk5 ((ht4.bar hk4 x5).le (Nat.le_succ _)) (ok.cty g5 oe5) (Nat.le_trans hcl (Nat.le_succ _)) (.inl ⟨rfl, rfl⟩) True.intro p9 H9 s9 h9
  | worth n1 w1 =>
    refine ⟨_, rfl, rfl, false, rfl, iteF ?_⟩
    refine ⟨_, rfl, le5, fun p4 H4 hp4 s4 h4 => ⟨p4, _, rfl, .inr h4, rfl, rfl, false, rfl, iteF ?_⟩⟩
    have s34 : Same H3 H4 := s4
    have hk4 := hk3.mono s34
    have ht4 := ht3.mono s34
    have h24 := s34 _ _ h23
    refine ⟨_, rfl, rfl, true, rfl, iteT ?_⟩
    have hw := form_worth hf
    refine ⟨_, rfl, _, rfl, _, rfl, b2, d2, S, ppl, n1, w1, p2, rfl, hk4, ok, h24, hD, hw.1, hw.2, fun H5 s5 he => ⟨le2, fun p9 H9 hp9 s9 h9 => ?_⟩, fun H5 v x5 hin hpos hk5 r5 => ⟨le2, fun p9 H9 hp9 s9 h9 => ?_⟩, fun H5 s5 hno => err H5 (Bar.trans s34.bar s5.bar) hno⟩
    · exact finN H5 (Bar.trans s34.bar s5.bar) he p9 H9 s9 h9
    · obtain ⟨a, us5, rfl, g5, pr5⟩ := r5
      exact fin H5 _ a (Bar.trans s34.bar x5.l) hk5 ((ht4.bar hk4 x5).le (Nat.le_succ _)) (worth_bk ok hw.1 hw.2 hpos) (Nat.le_trans hcl (Nat.le_succ _)) ⟨rfl, hin, hpos⟩ ⟨a, us5, rfl, g5, pr5⟩ p9 H9 s9 h9
  | demand k =>
    refine ⟨_, rfl, rfl, false, rfl, iteF ?_⟩
    refine ⟨_, rfl, le5, fun p4 H4 hp4 s4 h4 => ⟨p4, _, rfl, .inr h4, rfl, rfl, false, rfl, iteF ?_⟩⟩
    have s34 : Same H3 H4 := s4
    have hk4 := hk3.mono s34
    have ht4 := ht3.mono s34
    have h24 := s34 _ _ h23
    refine ⟨_, rfl, rfl, false, rfl, iteF ?_⟩
    refine ⟨_, rfl, rfl, true, rfl, iteT ?_⟩
    have hw := form_demand hf
    refine ⟨_, rfl, _, rfl, _, rfl, b2, d2, S, ppl, k, p2, rfl, hk4, ok, h24, hw.1, hw.2, fun he => ⟨le2, fun p9 H9 hp9 s9 h9 => ?_⟩, fun H5 a x5 hkk hk5 h5 => ⟨le2, fun p9 H9 hp9 s9 h9 => ?_⟩, fun hno => err _ s34.bar hno⟩
    · exact finN _ s34.bar he p9 H9 s9 h9
    · exact fin H5 _ a (Bar.trans s34.bar x5.l) hk5 ((ht4.bar hk4 x5).le (Nat.le_succ _)) (demand_bk ok (by omega) hw.2) (Nat.le_trans hcl (Nat.le_succ _)) ⟨rfl, hkk⟩ True.intro p9 H9 s9 h9
  | close k =>
    refine ⟨_, rfl, rfl, false, rfl, iteF ?_⟩
    refine ⟨_, rfl, le5, fun p4 H4 hp4 s4 h4 => ⟨p4, _, rfl, .inr h4, rfl, rfl, false, rfl, iteF ?_⟩⟩
    have s34 : Same H3 H4 := s4
    have hk4 := hk3.mono s34
    have ht4 := ht3.mono s34
    have h24 := s34 _ _ h23
    refine ⟨_, rfl, rfl, false, rfl, iteF ?_⟩
    refine ⟨_, rfl, rfl, false, rfl, iteF ?_⟩
    refine ⟨_, rfl, rfl, true, rfl, iteT ?_⟩
    have hw := form_close hf
    refine ⟨_, rfl, _, rfl, _, rfl, b2, d2, S, ppl, k, p2, rfl, hk4, ok, hppl, h24, fun H5 a c5 x5 g5 hh hy hk5 h5 => ⟨le2, fun p9 H9 hp9 s9 h9 => ?_⟩, fun H5 s5 => err H5 (Bar.trans s34.bar s5.bar) True.intro⟩
    exact fin H5 _ a (Bar.trans s34.bar x5.l) hk5 ((ht4.bar hk4 x5).le (Nat.le_succ _)) (close_bk ok g5 hh hy hw.1 hw.2) (Nat.le_trans hcl (Nat.le_succ _)) (.inr ⟨rfl, rfl⟩) True.intro p9 H9 s9 h9
  | term n1 z1 =>
    refine ⟨_, rfl, rfl, false, rfl, iteF ?_⟩
    refine ⟨_, rfl, le5, fun p4 H4 hp4 s4 h4 => ⟨p4, _, rfl, .inr h4, rfl, rfl, false, rfl, iteF ?_⟩⟩
    have s34 : Same H3 H4 := s4
    have hk4 := hk3.mono s34
    have ht4 := ht3.mono s34
    have h24 := s34 _ _ h23
    refine ⟨_, rfl, rfl, false, rfl, iteF ?_⟩
    refine ⟨_, rfl, rfl, false, rfl, iteF ?_⟩
    refine ⟨_, rfl, rfl, false, rfl, iteF ?_⟩
    refine ⟨_, rfl, rfl, true, rfl, iteT ?_⟩
    refine ⟨_, rfl, _, rfl, _, rfl, b2, d2, S, n, n1, z1, p2, rfl, hk4, ok.co, ht4, hn, h24, fun H5 a x5 hk5 ht5 h5 => ⟨le2, fun p9 H9 hp9 s9 h9 => ?_⟩, fun H5 x5 hno => err H5 (Bar.trans s34.bar x5.r) hno⟩
    exact fin H5 S a (Bar.trans s34.bar x5.r) hk5 ht5 ok (Nat.le_trans hcl (Nat.le_succ _)) rfl True.intro p9 H9 s9 h9
  | pay n1 k1 r1 h1 e1 =>
    refine ⟨_, rfl, rfl, false, rfl, iteF ?_⟩
    refine ⟨_, rfl, le5, fun p4 H4 hp4 s4 h4 => ⟨p4, _, rfl, .inr h4, rfl, rfl, false, rfl, iteF ?_⟩⟩
    have s34 : Same H3 H4 := s4
    have hk4 := hk3.mono s34
    have ht4 := ht3.mono s34
    have h24 := s34 _ _ h23
    refine ⟨_, rfl, rfl, false, rfl, iteF ?_⟩
    refine ⟨_, rfl, rfl, false, rfl, iteF ?_⟩
    refine ⟨_, rfl, rfl, false, rfl, iteF ?_⟩
    refine ⟨_, rfl, rfl, false, rfl, iteF ?_⟩
    have hw := form_pay hf
    refine ⟨_, rfl, fun v H' => (v = .non ∧ Bar b2 d2 H3 H') ∨ ∃ a, v = .ref a ∧ Bar b2 d2 H3 H' ∧ IsBk T.cBooks H' b2 d2 { S with coming := S.coming ++ [(n1, k1, r1, h1, e1)] } ∧ IsTerms T.cTerm H' d2 (n + 1), ⟨_, rfl, rfl, true, rfl, iteT ⟨_, rfl, _, rfl, b2, d2, S, n, ppl, n1, k1, r1, h1, e1, p2, rfl, hk4, ok, ht4, hn, hcl, hw, hD.2.1, hD.2.2, h24, fun H5 x5 => .inl ⟨rfl, Bar.trans s34.bar x5⟩, fun H5 a x5 hk5 ht5 h5 => .inr ⟨a, rfl, Bar.trans s34.bar x5, hk5, ht5⟩, fun H5 x5 => err H5 (Bar.trans s34.bar x5) True.intro⟩⟩, fun v H' hv => ⟨le2, fun p9 H9 hp9 s9 h9 => ?_⟩⟩
    rcases hv with ⟨rfl, x5⟩ | ⟨a, rfl, x5, hk5, ht5⟩
    · exact finN H' x5 True.intro p9 H9 s9 h9
    · exact fin H' _ a x5 hk5 ht5 (pay_bk ok hn hcl hD.2.2) (by show (S.coming ++ [_]).length ≤ n + 1; rw [List.length_append]; exact Nat.succ_le_succ hcl) (.inl ⟨rfl, rfl⟩) True.intro p9 H9 s9 h9
  | hand n1 k1 e1 =>
    refine ⟨_, rfl, rfl, false, rfl, iteF ?_⟩
    refine ⟨_, rfl, le5, fun p4 H4 hp4 s4 h4 => ⟨p4, _, rfl, .inr h4, rfl, rfl, false, rfl, iteF ?_⟩⟩
    have s34 : Same H3 H4 := s4
    have hk4 := hk3.mono s34
    have ht4 := ht3.mono s34
    have h24 := s34 _ _ h23
    refine ⟨_, rfl, rfl, false, rfl, iteF ?_⟩
    refine ⟨_, rfl, rfl, false, rfl, iteF ?_⟩
    refine ⟨_, rfl, rfl, false, rfl, iteF ?_⟩
    refine ⟨_, rfl, rfl, false, rfl, iteF ?_⟩
    have hw := form_hand hf
    refine ⟨_, rfl, fun v H' => ∃ a tc, v = .ref a ∧ Bar b2 d2 H3 H' ∧ IsBk T.cBooks H' b2 d2 { S with toC := tc } ∧ IsTerms T.cTerm H' d2 n, ⟨_, rfl, rfl, false, rfl, iteF ⟨_, rfl, _, rfl, _, rfl, b2, d2, S, n, _, n1, k1, e1, p2, rfl, .inl rfl, hk4, ht4, (by omega), hw, h24, fun H5 a tc x5 hk5 ht5 h5 => ⟨a, tc, rfl, Bar.trans s34.bar x5, hk5, ht5⟩, fun H5 x5 => err H5 (Bar.trans s34.bar x5) True.intro⟩⟩, fun v H' hv => ⟨le2, fun p9 H9 hp9 s9 h9 => ?_⟩⟩
    obtain ⟨a, tc, rfl, x5, hk5, ht5⟩ := hv
    exact fin H' { S with toC := tc } a x5 hk5 (ht5.le (Nat.le_succ _)) (toc_bk ok) (Nat.le_trans hcl (Nat.le_succ _)) (.inl ⟨rfl, rfl⟩) True.intro p9 H9 s9 h9
  | pass n1 k1 e1 =>
    refine ⟨_, rfl, rfl, false, rfl, iteF ?_⟩
    refine ⟨_, rfl, le5, fun p4 H4 hp4 s4 h4 => ⟨p4, _, rfl, .inr h4, rfl, rfl, false, rfl, iteF ?_⟩⟩
    have s34 : Same H3 H4 := s4
    have hk4 := hk3.mono s34
    have ht4 := ht3.mono s34
    have h24 := s34 _ _ h23
    refine ⟨_, rfl, rfl, false, rfl, iteF ?_⟩
    refine ⟨_, rfl, rfl, false, rfl, iteF ?_⟩
    refine ⟨_, rfl, rfl, false, rfl, iteF ?_⟩
    refine ⟨_, rfl, rfl, false, rfl, iteF ?_⟩
    have hw := form_pass hf
    refine ⟨_, rfl, fun v H' => ∃ a tc, v = .ref a ∧ Bar b2 d2 H3 H' ∧ IsBk T.cBooks H' b2 d2 { S with toC := tc } ∧ IsTerms T.cTerm H' d2 n, ⟨_, rfl, rfl, false, rfl, iteF ⟨_, rfl, _, rfl, _, rfl, b2, d2, S, n, _, n1, k1, e1, p2, rfl, .inr rfl, hk4, ht4, (by omega), hw, h24, fun H5 a tc x5 hk5 ht5 h5 => ⟨a, tc, rfl, Bar.trans s34.bar x5, hk5, ht5⟩, fun H5 x5 => err H5 (Bar.trans s34.bar x5) True.intro⟩⟩, fun v H' hv => ⟨le2, fun p9 H9 hp9 s9 h9 => ?_⟩⟩
    obtain ⟨a, tc, rfl, x5, hk5, ht5⟩ := hv
    exact fin H' { S with toC := tc } a x5 hk5 (ht5.le (Nat.le_succ _)) (toc_bk ok) (Nat.le_trans hcl (Nat.le_succ _)) (.inl ⟨rfl, rfl⟩) True.intro p9 H9 s9 h9
end
end K5
set_option maxHeartbeats 1000000
namespace K5
open PySem PySem.Spec PyProof.Rows L2
def lgF (b l l2 : Addr) : List (Str × V) := [("books", .ref b), ("behind", .ref l), ("ahead", .ref l2)]
theorem lg_few {b l l2 : Addr} : (lgF b l l2).length < 1000 := by show 3 < 1000; decide
def IsLg (CL CB CT : Addr) (H : Hp) (p l : Addr) (S : Bk) (n : Nat) : Prop := ∃ dx b d l2 xs ys, H p = some (.ins CL dx (lgF b l l2)) ∧ H l = some (.lst xs) ∧ xs.length ≤ n ∧ H l2 = some (.lst ys) ∧ ys.length ≤ 1000 ∧ IsBk CB H b d S ∧ IsTerms CT H d n
theorem IsLg.mono {CL CB CT : Addr} {H H' : Hp} {p l : Addr} {S : Bk} {n : Nat} (s : Same H H') (h : IsLg CL CB CT H p l S n) : IsLg CL CB CT H' p l S n := by
  obtain ⟨dx, b, d, l2, xs, ys, h1, h2, h3, h4, h5, h6, h7⟩ := h
  exact ⟨dx, b, d, l2, xs, ys, s _ _ h1, s _ _ h2, h3, s _ _ h4, h5, h6.mono s, h7.mono s⟩
theorem IsLg.le {CL CB CT : Addr} {H : Hp} {p l : Addr} {S : Bk} {n m : Nat} (hnm : n ≤ m) (h : IsLg CL CB CT H p l S n) : IsLg CL CB CT H p l S m := by
  obtain ⟨dx, b, d, l2, xs, ys, h1, h2, h3, h4, h5, h6, h7⟩ := h
  exact ⟨dx, b, d, l2, xs, ys, h1, h2, Nat.le_trans h3 hnm, h4, h5, h6, h7.le hnm⟩
def spLedgerInit (CL CB CT : Addr) : Sp := fun vs H Q _ => ∃ x dx vc ve t c ex, vs = [.ref x, vc, .int t, ve] ∧ H x = some (.ins CL dx []) ∧ rCounty H vc c ∧ CountyOk c ∧ posC c = true ∧ 0 ≤ t ∧ t ≤ 1000000000 ∧ rTL rS H ve ex ∧ ExcOk ex ∧
  ∀ l H', (∀ a u, a ≠ x → H a = some u → H' a = some u) → H l = none → IsLg CL CB CT H' x l (bk0 c t ex) 0 → Q .non H'
/-- what a deed's parts are to be -/
def Deed.letters : Deed → Str
  | .day _ => "d" | .come _ _ => "nn" | .go _ => "n" | .move _ _ => "nn" | .excuse _ => "n" | .charge _ => "n" | .worth _ _ => "nw" | .demand _ => "h" | .close _ => "s" | .term _ _ => "nn" | .pay _ _ _ _ _ => "ntrns" | .hand _ _ _ => "nts" | .pass _ _ _ => "nts"
def Deed.ds : Deed → List (Str × V × Bool)
  | .day k => [("d", .int k, inB 1 360 k)] | .come n z => [("n", .str n, true), ("n", .str z, true)] | .go n => [("n", .str n, true)] | .move n m => [("n", .str n, true), ("n", .str m, true)] | .excuse z => [("n", .str z, true)] | .charge z => [("n", .str z, true)]
  | .worth n w => [("n", .str n, true), ("w", .int w, inB 0 9999 w)] | .demand k => [("h", .int k, inB 1 2 k)] | .close k => [("s", .int k, inB 0 1000000000 k)] | .term p c => [("n", .str p, true), ("n", .str c, true)]
  | .pay p k r h e => [("n", .str p, true), ("t", .int k, inB 0 19 k), ("r", .int r, inB 1 200 r), ("n", .str h, true), ("s", .int e, inB 0 1000000000 e)]
  | .hand p k e => [("n", .str p, true), ("t", .int k, inB 0 19 k), ("s", .int e, inB 0 1000000000 e)] | .pass p k e => [("n", .str p, true), ("t", .int k, inB 0 19 k), ("s", .int e, inB 0 1000000000 e)]
theorem ds_parts (D : Deed) : D.ds.map (·.2.1) = D.parts := by cases D <;> rfl
theorem ds_form (D : Deed) : D.ds.all (·.2.2) = D.form := by cases D <;> simp [Deed.ds, Deed.form]
theorem ds_len (D : Deed) : D.ds.length ≤ 100 := by cases D <;> simp [Deed.ds]
theorem ds_tab (D : Deed) : (D.word, D.letters) ∈ partsTab := by
  cases D with
  | day => exact List.mem_iff_getElem?.mpr ⟨0, rfl⟩
  | come => exact List.mem_iff_getElem?.mpr ⟨1, rfl⟩
  | go => exact List.mem_iff_getElem?.mpr ⟨2, rfl⟩
  | move => exact List.mem_iff_getElem?.mpr ⟨3, rfl⟩
  | worth => exact List.mem_iff_getElem?.mpr ⟨4, rfl⟩
  | excuse => exact List.mem_iff_getElem?.mpr ⟨5, rfl⟩
  | charge => exact List.mem_iff_getElem?.mpr ⟨6, rfl⟩
  | demand => exact List.mem_iff_getElem?.mpr ⟨7, rfl⟩
  | close => exact List.mem_iff_getElem?.mpr ⟨8, rfl⟩
  | term => exact List.mem_iff_getElem?.mpr ⟨9, rfl⟩
  | pay => exact List.mem_iff_getElem?.mpr ⟨10, rfl⟩
  | hand => exact List.mem_iff_getElem?.mpr ⟨11, rfl⟩
  | pass => exact List.mem_iff_getElem?.mpr ⟨12, rfl⟩
theorem tab_ok : ∀ p ∈ partsTab, PyData.strOk p.1 = true ∧ p.1 ≠ "back" ∧ p.1 ≠ "again" := by decide +kernel
theorem ds_letters (D : Deed) : D.letters.cps.toList.map sg = D.ds.map (·.1) := by cases D <;> rfl
theorem word_ok (D : Deed) : PyData.strOk D.word = true := (tab_ok _ (ds_tab D)).1
theorem pi_n {z : Str} (h : NameOk z) : PartIs "n" (.str z) true := .inl ⟨rfl, rfl, z, rfl, h⟩
theorem pi_b {l : Str} {lo hi i : Int} (h : (l, lo, hi) ∈ boundsTab) : PartIs l (.int i) (inB lo hi i) := .inr ⟨lo, hi, i, h, rfl, rfl⟩
theorem bt {x : Str × Int × Int} (h : boundsTab.contains x = true) : x ∈ boundsTab := List.contains_iff_mem.mp h
theorem bt_d : (("d" : Str), (1 : Int), (360 : Int)) ∈ boundsTab := bt (by decide +kernel)
theorem bt_w : (("w" : Str), (0 : Int), (9999 : Int)) ∈ boundsTab := bt (by decide +kernel)
theorem bt_h : (("h" : Str), (1 : Int), (2 : Int)) ∈ boundsTab := bt (by decide +kernel)
theorem bt_s : (("s" : Str), (0 : Int), (1000000000 : Int)) ∈ boundsTab := bt (by decide +kernel)
theorem bt_t : (("t" : Str), (0 : Int), (19 : Int)) ∈ boundsTab := bt (by decide +kernel)
theorem bt_r : (("r" : Str), (1 : Int), (200 : Int)) ∈ boundsTab := bt (by decide +kernel)
theorem all1 {α : Type} {P : α → Prop} {a : α} (h : P a) : ∀ x ∈ [a], P x := fun x hx => by rw [List.mem_singleton.mp hx]; exact h
theorem allc {α : Type} {P : α → Prop} {a : α} {l : List α} (h : P a) (t : ∀ x ∈ l, P x) : ∀ x ∈ a :: l, P x := fun x hx => by
  rcases List.mem_cons.mp hx with e | e
  · rw [e]; exact h
  · exact t x e
theorem ds_is {ppl : List Str} {D : Deed} (h : D.Ok ppl) : ∀ d ∈ D.ds, PartIs d.1 d.2.1 d.2.2 := by
  cases D with
  | day k => exact all1 (P := fun d : Str × V × Bool => PartIs d.1 d.2.1 d.2.2) (pi_b bt_d)
  | come n z => exact allc (P := fun d : Str × V × Bool => PartIs d.1 d.2.1 d.2.2) (pi_n h.1) (all1 (P := fun d : Str × V × Bool => PartIs d.1 d.2.1 d.2.2) (pi_n h.2.1))
  | go n => exact all1 (P := fun d : Str × V × Bool => PartIs d.1 d.2.1 d.2.2) (pi_n h)
  | move n m => exact allc (P := fun d : Str × V × Bool => PartIs d.1 d.2.1 d.2.2) (pi_n h.1) (all1 (P := fun d : Str × V × Bool => PartIs d.1 d.2.1 d.2.2) (pi_n h.2))
  | excuse z => exact all1 (P := fun d : Str × V × Bool => PartIs d.1 d.2.1 d.2.2) (pi_n h)
  | charge z => exact all1 (P := fun d : Str × V × Bool => PartIs d.1 d.2.1 d.2.2) (pi_n h)
  | worth n w => exact allc (P := fun d : Str × V × Bool => PartIs d.1 d.2.1 d.2.2) (pi_n h) (all1 (P := fun d : Str × V × Bool => PartIs d.1 d.2.1 d.2.2) (pi_b bt_w))
  | demand k => exact all1 (P := fun d : Str × V × Bool => PartIs d.1 d.2.1 d.2.2) (pi_b bt_h)
  | close k => exact all1 (P := fun d : Str × V × Bool => PartIs d.1 d.2.1 d.2.2) (pi_b bt_s)
  | term p c => exact allc (P := fun d : Str × V × Bool => PartIs d.1 d.2.1 d.2.2) (pi_n h.1) (all1 (P := fun d : Str × V × Bool => PartIs d.1 d.2.1 d.2.2) (pi_n h.2))
  | pay p k r hh e => exact allc (P := fun d : Str × V × Bool => PartIs d.1 d.2.1 d.2.2) (pi_n h.1) (allc (P := fun d : Str × V × Bool => PartIs d.1 d.2.1 d.2.2) (pi_b bt_t) (allc (P := fun d : Str × V × Bool => PartIs d.1 d.2.1 d.2.2) (pi_b bt_r) (allc (P := fun d : Str × V × Bool => PartIs d.1 d.2.1 d.2.2) (pi_n h.2.1) (all1 (P := fun d : Str × V × Bool => PartIs d.1 d.2.1 d.2.2) (pi_b bt_s)))))
  | hand p k e => exact allc (P := fun d : Str × V × Bool => PartIs d.1 d.2.1 d.2.2) (pi_n h) (allc (P := fun d : Str × V × Bool => PartIs d.1 d.2.1 d.2.2) (pi_b bt_t) (all1 (P := fun d : Str × V × Bool => PartIs d.1 d.2.1 d.2.2) (pi_b bt_s)))
  | pass p k e => exact allc (P := fun d : Str × V × Bool => PartIs d.1 d.2.1 d.2.2) (pi_n h) (allc (P := fun d : Str × V × Bool => PartIs d.1 d.2.1 d.2.2) (pi_b bt_t) (all1 (P := fun d : Str × V × Bool => PartIs d.1 d.2.1 d.2.2) (pi_b bt_s)))
theorem word_ne (D : Deed) : D.word ≠ "back" ∧ D.word ≠ "again" := (tab_ok _ (ds_tab D)).2
def spDo (CL CB CT C : Addr) : Sp := fun vs H Q E => ∃ (p l t : Addr) (S : Bk) (n : Nat) (ppl : List Str) (D : Deed), vs = [.ref p, .ref t] ∧ H t = some (.tup (.str D.word :: D.parts)) ∧ IsLg CL CB CT H p l S n ∧ BkOk ppl S ∧ ppl.length < 64 ∧ S.coming.length ≤ n ∧ n + 1 ≤ 1000 ∧ D.Ok ppl ∧
  (∀ H' a, Same H H' → D.form = true → D.NoneOk S → H' a = some (.tup []) → Q (.ref a) H') ∧
  (∀ H' S' x, Bar p l H H' → D.form = true → IsLg CL CB CT H' p l S' (n + 1) → BkOk ppl S' → S'.coming.length ≤ n + 1 → D.Step S S' → D.Res H' S (.ref x) → Q (.ref x) H') ∧
  (∀ H', Same H H' → (D.form = true → D.CanRaise S n) → E (.ref C) none H')
def dueOf (S : Bk) (z : Str) : List Row := (S.all.filter fun r => decide (r.1 = z)).map (·.2)
def spDue (CL CB CT : Addr) : Sp := fun vs H Q _ => ∃ p l S n ppl z, vs = [.ref p, .str z] ∧ IsLg CL CB CT H p l S n ∧ BkOk ppl S ∧ NameOk z ∧ ∀ q us H', Same H H' → H q = none → H' q = some (.lst us) → Paired (rRow H') us (dueOf S z) → Q (.ref q) H'
def spNeedParish (CL CB CT : Addr) : Sp := fun vs H Q _ => ∃ p l S n z, vs = [.ref p, .str z] ∧ IsLg CL CB CT H p l S n ∧ CountyOk S.county ∧ NameOk z ∧ z ∈ S.county.map (·.1) ∧ ∀ H', Same H H' → Q .non H'
def LgN (CL CB : Addr) (H : Hp) (p : Addr) (z : Str) (m : Nat) : Prop := ∃ dx b l l2 bdx S vc ve vs vk d kvs, H p = some (.ins CL dx (lgF b l l2)) ∧ H b = some (.ins CB bdx (bkF S vc ve vs vk d)) ∧ H d = some (.dK kvs) ∧
  ((valV kvs (Sum.inr z) = none ∧ m = 0) ∨ ∃ a ts, valV kvs (Sum.inr z) = some (.ref a) ∧ H a = some (.tup ts) ∧ ts.length = m)
theorem LgN.mono {CL CB : Addr} {H H' : Hp} {p : Addr} {z : Str} {m : Nat} (s : Same H H') (h : LgN CL CB H p z m) : LgN CL CB H' p z m := by
  obtain ⟨dx, b, l, l2, bdx, S, vc, ve, vs, vk, d, kvs, h1, h2, h3, h4⟩ := h
  refine ⟨dx, b, l, l2, bdx, S, vc, ve, vs, vk, d, kvs, s _ _ h1, s _ _ h2, s _ _ h3, ?_⟩
  rcases h4 with h4 | ⟨a, ts, e1, e2, e3⟩
  · exact .inl h4
  · exact .inr ⟨a, ts, e1, s _ _ e2, e3⟩
def rTm (CT : Addr) : Rel Unit := fun H v _ => ∃ a dx z e c w, v = .ref a ∧ H a = some (.ins CT dx (tmF z e c w))
def spTerms (CL CB CT : Addr) : Sp := fun vs H Q _ => ∃ p l S n z, vs = [.ref p, .str z] ∧ IsLg CL CB CT H p l S n ∧ CountyOk S.county ∧ NameOk z ∧ z ∈ S.county.map (·.1) ∧ ∀ q us m H', Same H H' → H' q = some (.lst us) → us.length = m → m ≤ 20 → LgN CL CB H' p z m → Q (.ref q) H'
def spTold (CL CB CT : Addr) : Sp := fun vs H Q _ => ∃ p l S n z k m, vs = [.ref p, .str z, .int k] ∧ IsLg CL CB CT H p l S n ∧ CountyOk S.county ∧ NameOk z ∧ z ∈ S.county.map (·.1) ∧ LgN CL CB H p z m ∧ 0 ≤ k ∧ k < m ∧ ∀ t d H', Same H H' → IsTerm CT H' d n t → Q t H'
def spLHand (CL CB CT : Addr) : Sp := fun vs H Q _ => ∃ p l S n z k m, vs = [.ref p, .str z, .int k] ∧ IsLg CL CB CT H p l S n ∧ n ≤ 1000 ∧ CountyOk S.county ∧ NameOk z ∧ z ∈ S.county.map (·.1) ∧ LgN CL CB H p z m ∧ 0 ≤ k ∧ k < m ∧ ∀ i H', Same H H' → Q (.int i) H'
def spCopy (CL CB CT : Addr) : Sp := fun vs H Q _ => ∃ p l S n ppl, vs = [.ref p] ∧ IsLg CL CB CT H p l S n ∧ n ≤ 1000 ∧ BkOk ppl S ∧ ∀ p2 l2 H', Same H H' → H p2 = none → H l2 = none → IsLg CL CB CT H' p2 l2 S n → Q (.ref p2) H'
def spInt (CL CB CT : Addr) (f : Bk → Int) : Sp := fun vs H Q _ => ∃ p l S n, vs = [.ref p] ∧ IsLg CL CB CT H p l S n ∧ Q (.int (f S)) H
def spCty (CL CB CT : Addr) : Sp := fun vs H Q _ => ∃ p l S n, vs = [.ref p] ∧ IsLg CL CB CT H p l S n ∧ ∀ v, rCounty H v S.county → Q v H
def spExc (CL CB CT : Addr) : Sp := fun vs H Q _ => ∃ p l S n, vs = [.ref p] ∧ IsLg CL CB CT H p l S n ∧ ∀ v, rTL rS H v S.excused → Q v H
section
variable {P : Program} {w : World} {K : PySem.W.Frag} {mg : Str → Option Value} {base : Heap}
abbrev N_Ledger_init : List Str := ["self", "county", "total", "excused"]
theorem sc_Ledger_init : FnScope N_Ledger_init ["self", "county", "total", "excused"] (defScope (inClass (top 85) 0)) := ⟨rfl, rfl, rfl, by decide +kernel, rfl, by decide +kernel, by decide +kernel⟩
theorem c_Ledger_init (T : Txt w K mg) : Mr P w K mg base CX0 7 T.cLedger "Ledger" (spLedgerInit T.cLedger T.cBooks T.cTerm) := by
  refine Mr.of T.d_Ledger_init sc_Ledger_init (fun _ _ _ _ _ _ us h => by obtain ⟨u0, u1, u2, u3, rfl⟩ := len4 h; rfl) (fun vs H Q E h => by obtain ⟨x, dx, vc, ve, t, c, ex, rfl, hx, rc, co, pcn, t0, t1, re, oe, q⟩ := h; rfl) fun f cdv A outer s H vs Q E hr h => ?_
  obtain ⟨x, dx, vc, ve, t, c, ex, rfl, hx, rc, co, pcn, t0, t1, re, oe, q⟩ := h
  refine ⟨_, PSs.nox ((pss_cons (ps_expr (pc (c_need_county T) (hr.mono (by decide)) pass0 (pa_cons (pv 1) pa_nil)))
  (pss_cons (ps_expr (pc (c_need_sum T) (hr.mono (by decide)) pass0 (pa_cons (pv 2) pa_nil)))
  (pss_cons (ps_expr (pc (c_need_excused T) (hr.mono (by decide)) pass0 (pa_cons (pv 3) pa_nil)))
  (pss_cons (ps_fldS T.cl_Ledger T.n_Ledger_books (pv 0) (pk (c_Books_init T) (hr.mono (by decide)) pass0 (pa_cons (pv 1) (pa_cons (pv 2) (pa_cons (pv 3) pa_nil)))) rfl)
  (pss_cons (ps_fldS T.cl_Ledger T.n_Ledger_behind (pv 0) (pe_lstS pa_nil) rfl)
  (pss_one (ps_fldS T.cl_Ledger T.n_Ledger_ahead (pv 0) (pe_lstS pa_nil) rfl)))))))), ?_⟩
  refine ⟨_, rfl, vc, c, rfl, rc, co, pcn, fun H1 s1 => ?_⟩
  refine ⟨_, rfl, t, rfl, t0, t1, fun H2 s2 => ?_⟩
  refine ⟨_, rfl, ve, ex, rfl, mn (s1.trans s2) re, oe, fun H3 s3 => ?_⟩
  have s13 := s1.trans (s2.trans s3)
  refine ⟨_, rfl, _, rfl, _, rfl, fun xb dxb hxb hdxb hne => ⟨xb, dxb, vc, ve, t, c, ex, rfl, upd_same, ?_, ?_, fun d H4 keep hd h4 hk => ⟨rfl, ?_⟩⟩⟩
  · exact mn (A := rCounty) (s13.trans fun a u h => by rw [upd_ne (ne_of_none h hxb), upd_ne (ne_of_none h hdxb)]; exact h) rc
  · exact mn (A := rTL rS) (s13.trans fun a u h => by rw [upd_ne (ne_of_none h hxb), upd_ne (ne_of_none h hdxb)]; exact h) re
  have s34 : Same H3 H4 := fun a u h => keep a u (ne_of_none h hxb) (by rw [upd_ne (ne_of_none h hxb), upd_ne (ne_of_none h hdxb)]; exact h)
  have s04 := s13.trans s34
  have hx4 := s04 _ _ hx
  have hxbH : H xb = none := none_back s13 hxb
  have hdH : H d = none := by
    cases e : H d with
    | none => rfl
    | some u =>
      have := s13 _ _ e
      rw [upd_ne (ne_of_none this hxb), upd_ne (ne_of_none this hdxb), this] at hd
      cases hd
  refine ⟨_, rfl, x, dx, [], rfl, hx4, by simp, ?_⟩
  refine ⟨le0, fun p1 H5 hp1 s5 h5 => ⟨_, rfl, x, dx, [("books", .ref xb)], rfl, s5 _ _ upd_same, by simp, ?_⟩⟩
  have n1 : p1 ≠ x := (ne_of_none upd_same hp1).symm
  have hp1H4 : H4 p1 = none := by rw [upd_ne n1] at hp1; exact hp1
  refine ⟨le0, fun p2 H6 hp2 s6 h6 => ⟨_, rfl, x, dx, [("books", .ref xb), ("behind", .ref p1)], rfl, s6 _ _ upd_same, by simp, ?_⟩⟩
  have n2 : p2 ≠ x := (ne_of_none upd_same hp2).symm
  have k46 : ∀ a u, a ≠ x → H4 a = some u → upd H6 x (.ins T.cLedger dx (putF "ahead" (.ref p2) [("books", .ref xb), ("behind", .ref p1)])) a = some u := fun a u na h => by
    rw [upd_ne na]
    refine s6 _ _ ?_
    rw [upd_ne na]
    refine s5 _ _ ?_
    rw [upd_ne na]
    exact h
  have tk46 : Tk H4 (upd H6 x (.ins T.cLedger dx (putF "ahead" (.ref p2) [("books", .ref xb), ("behind", .ref p1)]))) := fun a u h => k46 a _ (fun e => by rw [e, hx4] at h; cases h) h
  obtain ⟨dx4, vc4, ve4, vs4, vk4, g4, q1, q2, q3, q4⟩ := hk
  have nxb : xb ≠ x := fun e => by rw [e, hx] at hxbH; cases hxbH
  have nd : d ≠ x := fun e => by rw [e, hx] at hdH; cases hdH
  refine q p1 _ (fun a u na h => k46 a u na (s04 _ _ h)) (none_back s04 hp1H4) ⟨dx, xb, d, p2, [], [], upd_same, ?_, Nat.le_refl _, ?_, Nat.zero_le _, ⟨dx4, vc4, ve4, vs4, vk4, k46 _ _ nxb g4, Mon.go (A := rCounty) tk46 q1, Mon.go (A := rTL rS) tk46 q2, Mon.go (A := rTL rPRow) tk46 q3, Mon.go (A := rTL rRec) tk46 q4⟩, ⟨[], k46 _ _ nd h4, Nat.le_refl _, fun kv h => by cases h⟩⟩
  · rw [upd_ne n1]
    exact s6 _ _ (by rw [upd_ne n1]; exact h5)
  · rw [upd_ne n2]
    exact h6
abbrev N_Ledger_do : List Str := ["self", "deed", "found", "answer"]
theorem sc_Ledger_do : FnScope N_Ledger_do ["self", "deed"] (defScope (inClass (top 85) 1)) := ⟨rfl, rfl, rfl, by decide +kernel, rfl, by decide +kernel, by decide +kernel⟩
theorem c_Ledger_do (T : Txt w K mg) : Mt P w K mg base (L2.CX P w) 11 T.cLedger "do" (spDo T.cLedger T.cBooks T.cTerm T.eBadDeed) := by
  refine Mt.of T.d_Ledger_do sc_Ledger_do (fun _ _ _ _ _ _ us h => by obtain ⟨u0, u1, rfl⟩ := len2 h; rfl) (fun vs H Q E h => by obtain ⟨p, l, t, S, n, ppl, D, rfl, hT, hg, ok, hppl, hcl, hn, hD, qn, q, qe⟩ := h; rfl) fun f cdv A outer s H vs Q E hr h => ?_
  obtain ⟨p, l, t, S, n, ppl, D, rfl, hT, hg, ok, hppl, hcl, hn, hD, qn, q, qe⟩ := h
  refine ⟨_, (pss_cons (ps_expr (pc (c_need T) (hr.mono (by decide)) (passes_call (takes_of rfl rfl rfl rfl) fun _ _ _ _ h => h) (pa_cons (pc (c_has_deed_form T) (hr.mono (by decide)) pass0 (pa_cons (pv 1) pa_nil)) pa_nil)))
  (pss_cons (ps_if (pt_cmpR op_eq (pe_ix ix_tupS (pv 1) pe_int (fun _ _ => rfl)) pe_str (nomark _)) (pss_cons ps_never (pss_cons ps_never (pss_cons ps_never (pss_one ps_never)))) pss_nil)
  (pss_cons (ps_if (pt_cmpR op_eq (pe_ix ix_tupS (pv 1) pe_int (fun _ _ => rfl)) pe_str (nomark _)) (pss_cons ps_never (pss_cons ps_never (pss_cons ps_never (pss_one ps_never)))) pss_nil)
  (pss_cons (ps_asg (pc (c_led T) (hr.mono (by decide)) (passes_call (takes_of rfl rfl rfl rfl) fun _ _ _ _ h => h) (pa_cons (pe_fldS T.cl_Ledger T.n_Ledger_books (pv 0) rfl) (pa_cons (pv 1) pa_nil))) (pg_tupS (n := 2) rfl (pgs_cons (pg_name (i := 2) sc_Ledger_do.nd rfl (Or.inl rfl)) (pgs_cons (pg_name (i := 3) sc_Ledger_do.nd rfl (Or.inl rfl)) pgs_nil))))
  (pss_cons (ps_if (pt_cmpR op_isN (pv 3) pe_non (nomark _)) (pss_one (ps_ret (pe_tupS pa_nil))) pss_nil)
  (pss_cons (ps_expr (pe_bm PySem.F.plainAttrs_list PySem.F.slot_list_append PySem.F.type_list_append mt_append (pe_fldS T.cl_Ledger T.n_Ledger_behind (pv 0) rfl) (pa_cons (pe_fldS T.cl_Ledger T.n_Ledger_books (pv 0) rfl) pa_nil)))
  (pss_cons (ps_fldS T.cl_Ledger T.n_Ledger_ahead (pv 0) (pe_lstS pa_nil) rfl)
  (pss_cons (ps_fldS T.cl_Ledger T.n_Ledger_books (pv 0) (pv 2) rfl)
  (pss_one (ps_ret (pv 3))))))))))), ?_⟩
  have hg0 := hg
  obtain ⟨dx, b, d, l2, xs, ys, hp, hl, hxl, hl2, hyl, hb, ht⟩ := hg
  refine ⟨_, rfl, t, D.word, D.letters, D.ds, rfl, by rw [ds_parts]; exact hT, word_ok D, ds_tab D, ds_letters D, ds_is hD, ds_len D, fun H1 s1 => ⟨_, rfl, fun hf => ?_, fun hf => qe _ s1 fun z => ?_⟩⟩
  · rw [ds_form] at hf
    have hT1 := s1 _ _ hT
    refine ⟨_, rfl, t, _, 0, _, rfl, rfl, hT1, at0, rfl, false, dF (fun e => (word_ne D).1 (by injection e)), iteF ?_⟩
    refine ⟨_, rfl, t, _, 0, _, rfl, rfl, hT1, at0, rfl, false, dF (fun e => (word_ne D).2 (by injection e)), iteF ?_⟩
    refine ⟨_, rfl, p, dx, _, _, rfl, s1 _ _ hp, rfl, _, rfl, b, d, S, n, ppl, t, D, rfl, hT1, hb.mono s1, ht.mono s1, ok, hppl, hcl, hn, hD, hf, fun H2 a b2 s2 hno h2 => ?_, fun H2 a b2 d2 S' x s2 h2 hk2 ht2 ok2 hc2 st rs => ?_, fun H2 s2 hc => qe _ (s1.trans s2) fun _ => hc⟩
    · refine ⟨a, _, rfl, h2, rfl, _, _, rfl, _, _, rfl, rfl, ?_⟩
      exact ⟨_, rfl, rfl, true, rfl, iteT ⟨le0, fun p3 H3 hp3 s3 h3 => qn H3 p3 (s1.trans (s2.trans s3)) hf hno h3⟩⟩
    · have s12 := s1.trans s2
      refine ⟨a, _, rfl, h2, rfl, _, _, rfl, _, _, rfl, rfl, ?_⟩
      refine ⟨_, rfl, rfl, false, rfl, iteF ?_⟩
      refine ⟨_, rfl, p, dx, lgF b l l2, .ref l, rfl, s12 _ _ hp, rfl, .inl ⟨rfl, _, SqL.of (s12 _ _ hl)⟩, _, rfl, p, dx, lgF b l l2, _, rfl, s12 _ _ hp, rfl, l, xs, _, rfl, rfl, s12 _ _ hl, line_lt (by omega), ?_⟩
      have npl : p ≠ l := ne_of hp hl (by intro z; cases z)
      refine ⟨le0, fun p3 H3 hp3 s3 h3 => ⟨_, rfl, p, dx, lgF b l l2, rfl, s3 _ _ (by rw [upd_ne npl]; exact s12 _ _ hp), lg_few, ?_⟩⟩
      refine ⟨_, rfl, _, rfl, p, dx, lgF b l p3, rfl, upd_same, lg_few, ?_⟩
      rw [upd_upd]
      have hl3 : H3 l = some (.lst (xs ++ [.ref b])) := s3 _ _ upd_same
      have hp3' : H3 p = some (.ins T.cLedger dx (lgF b l l2)) := s3 _ _ (by rw [upd_ne npl]; exact s12 _ _ hp)
      have np3 : p3 ≠ p := (ne_of_none (by rw [upd_ne npl]; exact s12 _ _ hp) hp3).symm
      have x23 : Bar p l H2 (upd H3 p (.ins T.cLedger dx (lgF b2 l p3))) := fun c u h1 h2' h => by
        rw [upd_ne h1]
        exact s3 _ _ (by rw [upd_ne h2']; exact h)
      have tk23 : Tk H2 (upd H3 p (.ins T.cLedger dx (lgF b2 l p3))) := x23.tk (fun us e => by rw [s12 _ _ hp] at e; cases e) (fun us e => by rw [s12 _ _ hl] at e; cases e)
      have keepI : ∀ c C0 dx0 fs0, H2 c = some (.ins C0 dx0 fs0) → fs0.length ≠ 3 → c ≠ p ∧ c ≠ l := fun c C0 dx0 fs0 h hne => ⟨fun e => by
        rw [e, s12 _ _ hp] at h
        injection h with h
        injection h with _ _ h
        exact hne (by rw [← h]; rfl), fun e => by rw [e, s12 _ _ hl] at h; cases h⟩
      have keepD : ∀ c kvs, H2 c = some (.dK kvs) → c ≠ p ∧ c ≠ l := fun c kvs h => ⟨(fun e => by rw [e, s12 _ _ hp] at h; cases h), (fun e => by rw [e, s12 _ _ hl] at h; cases h)⟩
      refine ⟨_, rfl, q _ S' x (Bar.trans s12.bar x23) hf ⟨dx, b2, d2, p3, xs ++ [.ref b], [], upd_same, ?_, by rw [List.length_append]; exact Nat.succ_le_succ hxl, ?_, Nat.zero_le _, ?_, ?_⟩ ok2 hc2 st ?_⟩
      · rw [upd_ne (Ne.symm npl)]
        exact hl3
      · rw [upd_ne np3]
        exact h3
      · obtain ⟨dx2, vc2, ve2, vs2, vk2, g2, q1, q2, q3, q4⟩ := hk2
        have kk := keepI b2 _ _ _ g2 (by show 10 ≠ 3; decide)
        exact ⟨dx2, vc2, ve2, vs2, vk2, x23 _ _ kk.1 kk.2 g2, Mon.go (A := rCounty) tk23 q1, Mon.go (A := rTL rS) tk23 q2, Mon.go (A := rTL rPRow) tk23 q3, Mon.go (A := rTL rRec) tk23 q4⟩
      · obtain ⟨kvs, hd2, hkl, hk⟩ := ht2
        have kd := keepD d2 _ hd2
        refine ⟨kvs, x23 _ _ kd.1 kd.2 hd2, hkl, fun kv hkv => ?_⟩
        obtain ⟨a1, ts, e1, g1, g2, g3⟩ := hk kv hkv
        refine ⟨a1, ts, e1, tk23 _ _ g1, g2, fun t' ht' => ?_⟩
        obtain ⟨a2, dx2, z, e, c, wt, kv2, f1, f2, f3, f4, f5, f6⟩ := g3 t' ht'
        have ka := keepI a2 _ _ _ f2 (by show 4 ≠ 3; decide)
        have ke := keepD e _ f4
        exact ⟨a2, dx2, z, e, c, wt, kv2, f1, x23 _ _ ka.1 ka.2 f2, f3, x23 _ _ ke.1 ke.2 f4, f5, fun kv h => let ⟨y, hy, ho⟩ := f6 kv h; ⟨y, Mon.go tk23 hy, ho⟩⟩
      · cases D with
        | worth n1 w1 => exact Mon.go (A := rTL (rT3 rS rI rI)) tk23 rs
        | _ => exact True.intro
  · rw [ds_form] at hf
    rw [hf] at z
    cases z
abbrev N_Ledger_year : List Str := ["self"]
theorem sc_Ledger_year : FnScope N_Ledger_year ["self"] (defScope (inClass (top 85) 3)) := ⟨rfl, rfl, rfl, by decide +kernel, rfl, by decide +kernel, by decide +kernel⟩
theorem c_Ledger_year (T : Txt w K mg) : Mt P w K mg base CX0 1 T.cLedger "year" (spInt T.cLedger T.cBooks T.cTerm Bk.year) := by
  refine Mt.of T.d_Ledger_year sc_Ledger_year (fun _ _ _ _ _ _ us h => by obtain ⟨u0, rfl⟩ := len1 h; rfl) (fun vs H Q E h => by obtain ⟨p, l, S, n, rfl, ⟨dx, b, d, l2, xs, ys, hp, hl, hxl, hl2, hyl, ⟨bdx, vc, ve, vs, vk, hb, r⟩, ht⟩, q⟩ := h; rfl) fun f cdv A outer s H vs Q E hr h => ?_
  obtain ⟨p, l, S, n, rfl, ⟨dx, b, d, l2, xs, ys, hp, hl, hxl, hl2, hyl, ⟨bdx, vc, ve, vs, vk, hb, r⟩, ht⟩, q⟩ := h
  refine ⟨_, PSs.nox ((pss_one (ps_ret (pe_fldS T.cl_Books T.n_Books_on_year (pe_fldS T.cl_Ledger T.n_Ledger_books (pv 0) rfl) rfl)))), ?_⟩
  exact ⟨_, rfl, p, dx, _, _, rfl, hp, rfl, b, bdx, _, _, rfl, hb, rfl, q⟩
abbrev N_Ledger_day : List Str := ["self"]
theorem sc_Ledger_day : FnScope N_Ledger_day ["self"] (defScope (inClass (top 85) 4)) := ⟨rfl, rfl, rfl, by decide +kernel, rfl, by decide +kernel, by decide +kernel⟩
theorem c_Ledger_day (T : Txt w K mg) : Mt P w K mg base CX0 1 T.cLedger "day" (spInt T.cLedger T.cBooks T.cTerm Bk.day) := by
  refine Mt.of T.d_Ledger_day sc_Ledger_day (fun _ _ _ _ _ _ us h => by obtain ⟨u0, rfl⟩ := len1 h; rfl) (fun vs H Q E h => by obtain ⟨p, l, S, n, rfl, ⟨dx, b, d, l2, xs, ys, hp, hl, hxl, hl2, hyl, ⟨bdx, vc, ve, vs, vk, hb, r⟩, ht⟩, q⟩ := h; rfl) fun f cdv A outer s H vs Q E hr h => ?_
  obtain ⟨p, l, S, n, rfl, ⟨dx, b, d, l2, xs, ys, hp, hl, hxl, hl2, hyl, ⟨bdx, vc, ve, vs, vk, hb, r⟩, ht⟩, q⟩ := h
  refine ⟨_, PSs.nox ((pss_one (ps_ret (pe_fldS T.cl_Books T.n_Books_on_day (pe_fldS T.cl_Ledger T.n_Ledger_books (pv 0) rfl) rfl)))), ?_⟩
  exact ⟨_, rfl, p, dx, _, _, rfl, hp, rfl, b, bdx, _, _, rfl, hb, rfl, q⟩
abbrev N_Ledger_total : List Str := ["self"]
theorem sc_Ledger_total : FnScope N_Ledger_total ["self"] (defScope (inClass (top 85) 6)) := ⟨rfl, rfl, rfl, by decide +kernel, rfl, by decide +kernel, by decide +kernel⟩
theorem c_Ledger_total (T : Txt w K mg) : Mt P w K mg base CX0 1 T.cLedger "total" (spInt T.cLedger T.cBooks T.cTerm Bk.total) := by
  refine Mt.of T.d_Ledger_total sc_Ledger_total (fun _ _ _ _ _ _ us h => by obtain ⟨u0, rfl⟩ := len1 h; rfl) (fun vs H Q E h => by obtain ⟨p, l, S, n, rfl, ⟨dx, b, d, l2, xs, ys, hp, hl, hxl, hl2, hyl, ⟨bdx, vc, ve, vs, vk, hb, r⟩, ht⟩, q⟩ := h; rfl) fun f cdv A outer s H vs Q E hr h => ?_
  obtain ⟨p, l, S, n, rfl, ⟨dx, b, d, l2, xs, ys, hp, hl, hxl, hl2, hyl, ⟨bdx, vc, ve, vs, vk, hb, r⟩, ht⟩, q⟩ := h
  refine ⟨_, PSs.nox ((pss_one (ps_ret (pe_fldS T.cl_Books T.n_Books_of_total (pe_fldS T.cl_Ledger T.n_Ledger_books (pv 0) rfl) rfl)))), ?_⟩
  exact ⟨_, rfl, p, dx, _, _, rfl, hp, rfl, b, bdx, _, _, rfl, hb, rfl, q⟩
abbrev N_Ledger_demanded : List Str := ["self"]
theorem sc_Ledger_demanded : FnScope N_Ledger_demanded ["self"] (defScope (inClass (top 85) 8)) := ⟨rfl, rfl, rfl, by decide +kernel, rfl, by decide +kernel, by decide +kernel⟩
theorem c_Ledger_demanded (T : Txt w K mg) : Mt P w K mg base CX0 1 T.cLedger "demanded" (spInt T.cLedger T.cBooks T.cTerm Bk.halves) := by
  refine Mt.of T.d_Ledger_demanded sc_Ledger_demanded (fun _ _ _ _ _ _ us h => by obtain ⟨u0, rfl⟩ := len1 h; rfl) (fun vs H Q E h => by obtain ⟨p, l, S, n, rfl, ⟨dx, b, d, l2, xs, ys, hp, hl, hxl, hl2, hyl, ⟨bdx, vc, ve, vs, vk, hb, r⟩, ht⟩, q⟩ := h; rfl) fun f cdv A outer s H vs Q E hr h => ?_
  obtain ⟨p, l, S, n, rfl, ⟨dx, b, d, l2, xs, ys, hp, hl, hxl, hl2, hyl, ⟨bdx, vc, ve, vs, vk, hb, r⟩, ht⟩, q⟩ := h
  refine ⟨_, PSs.nox ((pss_one (ps_ret (pe_fldS T.cl_Books T.n_Books_halves (pe_fldS T.cl_Ledger T.n_Ledger_books (pv 0) rfl) rfl)))), ?_⟩
  exact ⟨_, rfl, p, dx, _, _, rfl, hp, rfl, b, bdx, _, _, rfl, hb, rfl, q⟩
abbrev N_Ledger_county : List Str := ["self"]
theorem sc_Ledger_county : FnScope N_Ledger_county ["self"] (defScope (inClass (top 85) 5)) := ⟨rfl, rfl, rfl, by decide +kernel, rfl, by decide +kernel, by decide +kernel⟩
theorem c_Ledger_county (T : Txt w K mg) : Mt P w K mg base CX0 1 T.cLedger "county" (spCty T.cLedger T.cBooks T.cTerm) := by
  refine Mt.of T.d_Ledger_county sc_Ledger_county (fun _ _ _ _ _ _ us h => by obtain ⟨u0, rfl⟩ := len1 h; rfl) (fun vs H Q E h => by obtain ⟨p, l, S, n, rfl, ⟨dx, b, d, l2, xs, ys, hp, hl, hxl, hl2, hyl, ⟨bdx, vc, ve, vs, vk, hb, r1, r⟩, ht⟩, q⟩ := h; rfl) fun f cdv A outer s H vs Q E hr h => ?_
  obtain ⟨p, l, S, n, rfl, ⟨dx, b, d, l2, xs, ys, hp, hl, hxl, hl2, hyl, ⟨bdx, vc, ve, vs, vk, hb, r1, r⟩, ht⟩, q⟩ := h
  refine ⟨_, PSs.nox ((pss_one (ps_ret (pe_fldS T.cl_Books T.n_Books_of_county (pe_fldS T.cl_Ledger T.n_Ledger_books (pv 0) rfl) rfl)))), ?_⟩
  exact ⟨_, rfl, p, dx, _, _, rfl, hp, rfl, b, bdx, _, _, rfl, hb, rfl, q _ r1⟩
abbrev N_Ledger_excused : List Str := ["self"]
theorem sc_Ledger_excused : FnScope N_Ledger_excused ["self"] (defScope (inClass (top 85) 7)) := ⟨rfl, rfl, rfl, by decide +kernel, rfl, by decide +kernel, by decide +kernel⟩
theorem c_Ledger_excused (T : Txt w K mg) : Mt P w K mg base CX0 1 T.cLedger "excused" (spExc T.cLedger T.cBooks T.cTerm) := by
  refine Mt.of T.d_Ledger_excused sc_Ledger_excused (fun _ _ _ _ _ _ us h => by obtain ⟨u0, rfl⟩ := len1 h; rfl) (fun vs H Q E h => by obtain ⟨p, l, S, n, rfl, ⟨dx, b, d, l2, xs, ys, hp, hl, hxl, hl2, hyl, ⟨bdx, vc, ve, vs, vk, hb, r1, r2, r⟩, ht⟩, q⟩ := h; rfl) fun f cdv A outer s H vs Q E hr h => ?_
  obtain ⟨p, l, S, n, rfl, ⟨dx, b, d, l2, xs, ys, hp, hl, hxl, hl2, hyl, ⟨bdx, vc, ve, vs, vk, hb, r1, r2, r⟩, ht⟩, q⟩ := h
  refine ⟨_, PSs.nox ((pss_one (ps_ret (pe_fldS T.cl_Books T.n_Books_of_excused (pe_fldS T.cl_Ledger T.n_Ledger_books (pv 0) rfl) rfl)))), ?_⟩
  exact ⟨_, rfl, p, dx, _, _, rfl, hp, rfl, b, bdx, _, _, rfl, hb, rfl, q _ r2⟩
abbrev N_Ledger_due : List Str := ["self", "holder", "name", "row"]
theorem sc_Ledger_due : FnScope N_Ledger_due ["self", "holder"] (defScope (inClass (top 85) 9)) := ⟨rfl, rfl, rfl, by decide +kernel, rfl, by decide +kernel, by decide +kernel⟩
theorem c_Ledger_due (T : Txt w K mg) : Mt P w K mg base CX0 8 T.cLedger "due" (spDue T.cLedger T.cBooks T.cTerm) := by
  refine Mt.of T.d_Ledger_due sc_Ledger_due (fun _ _ _ _ _ _ us h => by obtain ⟨u0, u1, rfl⟩ := len2 h; rfl) (fun vs H Q E h => by obtain ⟨p, l, S, n, ppl, z, rfl, hg, ok, nz, q⟩ := h; rfl) fun f cdv A outer s H vs Q E hr h => ?_
  obtain ⟨p, l, S, n, ppl, z, rfl, hg, ok, nz, q⟩ := h
  refine ⟨_, PSs.nox ((pss_cons (ps_expr (pc (c_need_name T) (hr.mono (by decide)) pass0 (pa_cons (pv 1) pa_nil)))
  (pss_one (ps_ret (pe_lcS (own := [("name", 2), ("row", 3)]) (by rfl) sc_Ledger_due.nd (pi_list (pm0 (c_Books_all_rows T) (hr.mono (by decide)) pass0 (pe_fldS T.cl_Ledger T.n_Ledger_books (pv 0) rfl))) (blkOk_by (own := [("name", 2), ("row", 3)]) (N := N_Ledger_due) (sc := defScope (inClass (top 85) 9)) (by decide +kernel)) (fun _ _ _ _ _ => (pg_tupS (n := 2) rfl (pgs_cons (pg_name (i := 2) sc_Ledger_due.nd rfl (Or.inl rfl)) (pgs_cons (pg_name (i := 3) sc_Ledger_due.nd rfl (Or.inl rfl)) pgs_nil)))) (fun _ _ _ _ _ => (pts_one (pt_cmpR op_eq (pv 2) (pv 1) (nomark _)))) (fun _ _ _ _ _ => (pv 3))))))), ?_⟩
  obtain ⟨dx, b, d, l2, xs, ys, hp, hl, hxl, hl2, hyl, hb, ht⟩ := hg
  have hb0 := hb
  obtain ⟨bdx, vc, ve, vs, vk, hb, r⟩ := hb
  have hal := ok.alen
  refine ⟨_, rfl, z, rfl, nz, fun H1 s1 => ?_⟩
  refine ⟨_, rfl, p, dx, _, _, rfl, s1 _ _ hp, rfl, b, bdx, _, rfl, s1 _ _ hb, rfl, b, d, S, ppl, rfl, hb0.mono s1, ok, fun p3 us3 H3 s3 hp3 h3 pu3 => ?_⟩
  refine ⟨p3, rfl, ⟨us3, SqL.of h3⟩, fun D hD => ?_⟩
  have s13 := s1.trans s3
  refine lcS (A := rPRow) (B := rRow) (ds := S.all) src_list (fun r => decide (r.1 = z)) (fun r => r.2) hD (by omega) (fun H5 s5 => okL_mono s5 ⟨us3, h3, pu3⟩) (fun i y x H5 hd s5 r => ?_) fun acc H5 s5 hD5 pa => ?_
  · obtain ⟨T0, x1, x2, rfl, hT, rfl, r2⟩ := r
    refine ⟨T0, _, rfl, hT, rfl, _, _, rfl, _, _, rfl, rfl, rfl, _, rfl, _, rfl, rfl, _, rfl, ite2 (fun c => ?_) (fun c => ?_)⟩
    · have c : V.str y.1 = V.str z := of_decide_eq_true c
      injection c with c
      exact ⟨_, rfl, Same.refl _, decide_eq_true c, r2⟩
    · exact ⟨Same.refl _, decide_eq_false fun e => c (decide_eq_true (by rw [e]))⟩
  · exact q D acc H5 (s13.trans s5) (none_back s13 hD) hD5 pa
abbrev N_Ledger_need_parish : List Str := ["self", "parish", "name", "houses"]
theorem sc_Ledger_need_parish : FnScope N_Ledger_need_parish ["self", "parish"] (defScope (inClass (top 85) 12)) := ⟨rfl, rfl, rfl, by decide +kernel, rfl, by decide +kernel, by decide +kernel⟩
theorem c_Ledger_need_parish (T : Txt w K mg) : Mt P w K mg base CX0 3 T.cLedger "need_parish" (spNeedParish T.cLedger T.cBooks T.cTerm) := by
  refine Mt.of T.d_Ledger_need_parish sc_Ledger_need_parish (fun _ _ _ _ _ _ us h => by obtain ⟨u0, u1, rfl⟩ := len2 h; rfl) (fun vs H Q E h => by obtain ⟨p, l, S, n, z, rfl, hg, co, nz, hin, q⟩ := h; rfl) fun f cdv A outer s H vs Q E hr h => ?_
  obtain ⟨p, l, S, n, z, rfl, hg, co, nz, hin, q⟩ := h
  refine ⟨_, PSs.nox ((pss_cons (ps_expr (pc (c_need_name T) (hr.mono (by decide)) pass0 (pa_cons (pv 1) pa_nil)))
  (pss_one (ps_if (pt_cmpR op_notInS (pv 1) (pe_lcS (own := [("name", 2), ("houses", 3)]) (by rfl) sc_Ledger_need_parish.nd (pi_tup (pe_fldS T.cl_Books T.n_Books_of_county (pe_fldS T.cl_Ledger T.n_Ledger_books (pv 0) rfl) rfl)) (blkOk_by (own := [("name", 2), ("houses", 3)]) (N := N_Ledger_need_parish) (sc := defScope (inClass (top 85) 12)) (by decide +kernel)) (fun _ _ _ _ _ => (pg_tupS (n := 2) rfl (pgs_cons (pg_name (i := 2) sc_Ledger_need_parish.nd rfl (Or.inl rfl)) (pgs_cons (pg_name (i := 3) sc_Ledger_need_parish.nd rfl (Or.inl rfl)) pgs_nil)))) (fun _ _ _ _ _ => pts_nil) (fun _ _ _ _ _ => (pv 2))) rfl) (pss_one ps_never) pss_nil)))), ?_⟩
  obtain ⟨dx, b, d, l2, xs, ys, hp, hl, hxl, hl2, hyl, ⟨bdx, vc, ve, vs, vk, hb, ⟨ca, cs, rfl, hca, pcs⟩, r⟩, ht⟩ := hg
  have hc := co.hi
  refine ⟨_, rfl, z, rfl, nz, fun H1 s1 => ?_⟩
  refine ⟨_, rfl, _, rfl, p, dx, _, _, rfl, s1 _ _ hp, rfl, b, bdx, _, _, rfl, s1 _ _ hb, rfl, ca, rfl, ⟨cs, SqT.of (s1 _ _ hca)⟩, fun D hD => ?_⟩
  refine lcM (A := rParish) (B := rS) (ds := S.county) src_tup (fun p => p.1) hD (by omega) (fun H2 s2 => okT_mono (s1.trans s2).tk ⟨cs, hca, pcs⟩) (fun i y x H2 hd s2 r => ?_) fun acc H2 s2 hD2 pa => ?_
  · obtain ⟨a1, p1, p2, rfl, h1, rfl, _⟩ := r
    exact ⟨a1, _, rfl, h1, rfl, _, _, rfl, _, _, rfl, rfl, rfl, _, rfl, Same.refl _, rfl⟩
  refine ⟨D, acc, rfl, .inl hD2, rfl, by rw [pr_str pa]; exact flat_strs _, false, ?_, iteF (q _ (s1.trans s2))⟩
  show V.bl (!inV (.str z) acc) = V.bl false
  rw [pr_str pa, inV_strs, decide_eq_true hin]
  rfl
end
end K5
set_option maxHeartbeats 1000000
namespace K5
open PySem PySem.Spec PyProof.Rows L2
theorem bkF_d {S S' : Bk} {vc ve vs vk vc' ve' vs' vk' : V} {d d' : Addr} (h : bkF S vc ve vs vk d = bkF S' vc' ve' vs' vk' d') : d = d' := by
  have := congrArg (fun l : List (Str × V) => l[7]?) h
  have e : some (("by_parish" : Str), V.ref d) = some (("by_parish" : Str), V.ref d') := this
  injection e with e
  injection e with _ e
  injection e
theorem lgF_b {b l l2 b' l' l2' : Addr} (h : lgF b l l2 = lgF b' l' l2') : b = b' := by
  have e := congrArg (fun x : List (Str × V) => x[0]?) h
  have e : some (("books" : Str), V.ref b) = some (("books" : Str), V.ref b') := e
  injection e with e
  injection e with _ e
  injection e
section
variable {P : Program} {w : World} {K : PySem.W.Frag} {mg : Str → Option Value} {base : Heap}
abbrev N_Ledger_terms : List Str := ["self", "parish", "term"]
theorem sc_Ledger_terms : FnScope N_Ledger_terms ["self", "parish"] (defScope (inClass (top 85) 13)) := ⟨rfl, rfl, rfl, by decide +kernel, rfl, by decide +kernel, by decide +kernel⟩
theorem c_Ledger_terms (T : Txt w K mg) : Mt P w K mg base CX0 4 T.cLedger "terms" (spTerms T.cLedger T.cBooks T.cTerm) := by
  refine Mt.of T.d_Ledger_terms sc_Ledger_terms (fun _ _ _ _ _ _ us h => by obtain ⟨u0, u1, rfl⟩ := len2 h; rfl) (fun vs H Q E h => by obtain ⟨p, l, S, n, z, rfl, hg, co, nz, hin, q⟩ := h; rfl) fun f cdv A outer s H vs Q E hr h => ?_
  obtain ⟨p, l, S, n, z, rfl, hg, co, nz, hin, q⟩ := h
  refine ⟨_, PSs.nox ((pss_cons (ps_expr (pm (c_Ledger_need_parish T) (hr.mono (by decide)) pass0 (pv 0) (pa_cons (pv 1) pa_nil)))
  (pss_one (ps_ret (pe_lcS (own := [("term", 2)]) (by rfl) sc_Ledger_terms.nd (pi_tup (pe_dget2 (hu_of hr) (pe_fldS T.cl_Books T.n_Books_by_parish (pe_fldS T.cl_Ledger T.n_Ledger_books (pv 0) rfl) rfl) (pv 1) (pe_tupS pa_nil) ⟨rfl, rfl, rfl, rfl⟩)) (blkOk_by (own := [("term", 2)]) (N := N_Ledger_terms) (sc := defScope (inClass (top 85) 13)) (by decide +kernel)) (fun _ _ _ _ _ => (pg_name (i := 2) sc_Ledger_terms.nd rfl (Or.inl rfl))) (fun _ _ _ _ _ => pts_nil) (fun _ _ _ _ _ => (pe_fldS T.cl_Term T.n_Term_collector (pv 2) rfl))))))), ?_⟩
  have hg0 := hg
  obtain ⟨dx, b, d, l2, xs, ys, hp, hl, hxl, hl2, hyl, ⟨bdx, vc, ve, vs, vk, hb, r⟩, ht⟩ := hg
  obtain ⟨kvs, hd, hkl, hk⟩ := ht
  refine ⟨_, rfl, p, dx, lgF b l l2, rfl, hp, rfl, _, rfl, p, l, S, n, z, rfl, hg0, co, nz, hin, fun H1 s1 => ?_⟩
  refine ⟨_, rfl, p, dx, _, _, rfl, s1 _ _ hp, rfl, b, bdx, _, _, rfl, s1 _ _ hb, rfl, d, rfl, .inl ⟨kvs, .inl (s1 _ _ hd)⟩, _, rfl, le0, fun p2 H2 hp2 s2 h2 => ⟨_, DGet.k (k := Sum.inr z) (s2 _ _ (s1 _ _ hd)), ?_⟩⟩
  have s12 := s1.trans s2
  have hv : ∃ a ts, (valV kvs (Sum.inr z)).getD (V.ref p2) = .ref a ∧ H2 a = some (.tup ts) ∧ ts.length ≤ min 20 n ∧ (∀ t ∈ ts, IsTerm T.cTerm H2 d n t) ∧ LgN T.cLedger T.cBooks H2 p z ts.length := by
    cases hv : valV kvs (Sum.inr z) with
    | none => exact ⟨p2, [], rfl, h2, Nat.zero_le _, (fun t h => by cases h), dx, b, l, l2, bdx, S, vc, ve, vs, vk, d, kvs, s12 _ _ hp, s12 _ _ hb, s12 _ _ hd, .inl ⟨hv, rfl⟩⟩
    | some v =>
      obtain ⟨kv, hm, rfl⟩ := valV_mem hv
      obtain ⟨a, ts, ea, ha, hts, htt⟩ := hk kv hm
      rw [ea] at hv
      exact ⟨a, ts, ea, s12 _ _ ha, hts, (fun t h => (htt t h).mono s12), dx, b, l, l2, bdx, S, vc, ve, vs, vk, d, kvs, s12 _ _ hp, s12 _ _ hb, s12 _ _ hd, .inr ⟨a, ts, hv, s12 _ _ ha, rfl⟩⟩
  obtain ⟨a, ts, ea, ha, hts, htt, hN⟩ := hv
  rw [ea]
  refine ⟨a, rfl, ⟨ts, SqT.of ha⟩, fun D hD => ?_⟩
  have htm : ∀ H3, Same H2 H3 → Paired (rTm T.cTerm H3) ts (ts.map fun _ => ()) := fun H3 s3 => by
    clear hN hts ha ea
    induction ts with
    | nil => exact .nil
    | cons t ts ih =>
      obtain ⟨a, dx, z, e, c, w, kv, e1, e2, _⟩ := htt t List.mem_cons_self
      exact .cons ⟨a, dx, z, e, c, w, e1, s3 _ _ e2⟩ (ih fun x hx => htt x (List.mem_cons_of_mem _ hx))
  refine lcM (A := rTm T.cTerm) (B := rU) (ds := ts.map fun _ => ()) src_tup (fun _ => ()) hD (by rw [List.length_map]; omega) (fun H3 s3 => ⟨ts, s3 _ _ ha, htm H3 s3⟩) (fun i y x H3 hd s3 r => ?_) fun acc H3 s3 hD3 pa => ?_
  · obtain ⟨a1, dx1, z1, e1, c1, w1, rfl, g1⟩ := r
    exact ⟨rfl, _, rfl, a1, dx1, tmF z1 e1 c1 w1, _, rfl, g1, rfl, Same.refl _, True.intro⟩
  · exact q D acc ts.length H3 (s12.trans s3) hD3 (by rw [pr_len pa, List.length_map, List.length_map]) (Nat.le_trans hts (Nat.min_le_left _ _)) (hN.mono s3)
abbrev N_Ledger_term_told : List Str := ["self", "parish", "number", "terms"]
theorem sc_Ledger_term_told : FnScope N_Ledger_term_told ["self", "parish", "number"] (defScope (inClass (top 85) 14)) := ⟨rfl, rfl, rfl, by decide +kernel, rfl, by decide +kernel, by decide +kernel⟩
theorem c_Ledger_term_told (T : Txt w K mg) : Mt P w K mg base CX0 4 T.cLedger "term_told" (spTold T.cLedger T.cBooks T.cTerm) := by
  refine Mt.of T.d_Ledger_term_told sc_Ledger_term_told (fun _ _ _ _ _ _ us h => by obtain ⟨u0, u1, u2, rfl⟩ := len3 h; rfl) (fun vs H Q E h => by obtain ⟨p, l, S, n, z, k, m, rfl, hg, co, nz, hin, hN, h0, hm, q⟩ := h; rfl) fun f cdv A outer s H vs Q E hr h => ?_
  obtain ⟨p, l, S, n, z, k, m, rfl, hg, co, nz, hin, hN, h0, hm, q⟩ := h
  refine ⟨_, PSs.nox ((pss_cons (ps_expr (pm (c_Ledger_need_parish T) (hr.mono (by decide)) pass0 (pv 0) (pa_cons (pv 1) pa_nil)))
  (pss_cons (ps_set (i := 3) sc_Ledger_term_told.nd rfl (Or.inl rfl) (pe_dget2 (hu_of hr) (pe_fldS T.cl_Books T.n_Books_by_parish (pe_fldS T.cl_Ledger T.n_Ledger_books (pv 0) rfl) rfl) (pv 1) (pe_tupS pa_nil) ⟨rfl, rfl, rfl, rfl⟩))
  (pss_cons (ps_if (pt_not (pt_val (pc (c_is_whole T) (hr.mono (by decide)) pass0 (pa_cons (pv 2) (pa_cons pe_int (pa_cons (pe_op op_sub (pe_callB call_lenS (by rfl) T.f_len boot_len (pa_cons (pv 3) pa_nil)) pe_int) pa_nil)))))) (pss_one ps_never) pss_nil)
  (pss_one (ps_ret (pe_ix ix_tupS (pv 3) (pv 2) (fun _ _ => rfl)))))))), ?_⟩
  have hg0 := hg
  obtain ⟨dx, b, d, l2, xs, ys, hp, hl, hxl, hl2, hyl, ⟨bdx, vc, ve, vs, vk, hb, r⟩, ht⟩ := hg
  obtain ⟨kvs, hd, hkl, hk⟩ := ht
  obtain ⟨dx', b', l', l2', bdx', S', vc', ve', vs', vk', d', kvs', f1, f2, f3, f4⟩ := hN
  obtain rfl : b = b' := by
    rw [hp] at f1
    injection f1 with f1
    injection f1 with _ _ f1
    exact lgF_b f1
  obtain rfl : d = d' := by
    rw [hb] at f2
    injection f2 with f2
    injection f2 with _ _ f2
    exact bkF_d f2
  obtain rfl : kvs = kvs' := by
    rw [hd] at f3
    injection f3 with f3
    injection f3
  rcases f4 with ⟨_, e⟩ | ⟨a, ts, hv, ha, hlen⟩
  · omega
  obtain ⟨kv, hkm, ekv⟩ := valV_mem hv
  obtain ⟨a1, ts1, ea, ha1, hts, htt⟩ := hk kv hkm
  rw [ekv] at ea
  injection ea with ea
  subst ea
  rw [ha] at ha1
  injection ha1 with ha1
  injection ha1 with ha1
  subst ha1
  refine ⟨_, rfl, p, dx, lgF b l l2, rfl, hp, rfl, _, rfl, p, l, S, n, z, rfl, hg0, co, nz, hin, fun H1 s1 => ?_⟩
  refine ⟨_, rfl, p, dx, _, _, rfl, s1 _ _ hp, rfl, b, bdx, _, _, rfl, s1 _ _ hb, rfl, d, rfl, .inl ⟨kvs, .inl (s1 _ _ hd)⟩, _, rfl, le0, fun p2 H2 hp2 s2 h2 => ⟨_, DGet.k (k := Sum.inr z) (s2 _ _ (s1 _ _ hd)), ?_⟩⟩
  have s12 := s1.trans s2
  rw [show (valV kvs (Sum.inr z)).getD (V.ref p2) = .ref a by rw [hv]; rfl]
  refine ⟨_, rfl, _, rfl, a, ts, rfl, .inr (s12 _ _ ha), _, _, rfl, rfl, _, _, _, rfl, true, dT ⟨h0, by omega⟩, iteF ?_⟩
  have hlt : k.toNat < ts.length := by omega
  exact ⟨_, rfl, _, rfl, a, ts, k, ts[k.toNat], rfl, rfl, s12 _ _ ha, atI_int h0 (List.getElem?_eq_getElem hlt), q _ d _ s12 ((htt _ (List.getElem_mem hlt)).mono s12)⟩
abbrev N_Ledger_hand : List Str := ["self", "parish", "term"]
theorem sc_Ledger_hand : FnScope N_Ledger_hand ["self", "parish", "term"] (defScope (inClass (top 85) 16)) := ⟨rfl, rfl, rfl, by decide +kernel, rfl, by decide +kernel, by decide +kernel⟩
theorem c_Ledger_hand (T : Txt w K mg) : Mt P w K mg base CX0 5 T.cLedger "hand" (spLHand T.cLedger T.cBooks T.cTerm) := by
  refine Mt.of T.d_Ledger_hand sc_Ledger_hand (fun _ _ _ _ _ _ us h => by obtain ⟨u0, u1, u2, rfl⟩ := len3 h; rfl) (fun vs H Q E h => by obtain ⟨p, l, S, n, z, k, m, rfl, hg, hn, co, nz, hin, hN, h0, hm, q⟩ := h; rfl) fun f cdv A outer s H vs Q E hr h => ?_
  obtain ⟨p, l, S, n, z, k, m, rfl, hg, hn, co, nz, hin, hN, h0, hm, q⟩ := h
  refine ⟨_, PSs.nox ((pss_one (ps_ret (pm0 (c_Term_in_hand T) (hr.mono (by decide)) pass0 (pm (c_Ledger_term_told T) (hr.mono (by decide)) pass0 (pv 0) (pa_cons (pv 1) (pa_cons (pv 2) pa_nil))))))), ?_⟩
  have hg0 := hg
  obtain ⟨dx, b, d, l2, xs, ys, hp, r⟩ := hg
  refine ⟨_, rfl, p, dx, lgF b l l2, rfl, hp, rfl, _, rfl, _, rfl, p, l, S, n, z, k, m, rfl, hg0, co, nz, hin, hN, h0, hm, fun t d1 H1 s1 ht => ?_⟩
  have ht0 := ht
  obtain ⟨a, dx1, cz, e, cm, wt, kvs, rfl, ha, hed, he, hl, hk⟩ := ht
  exact ⟨a, dx1, tmF cz e cm wt, rfl, ha, rfl, d1, n, _, rfl, ht0, hn, fun i H2 s2 => q i H2 (s1.trans s2)⟩
abbrev N_Ledger_copy : List Str := ["self", "found"]
theorem sc_Ledger_copy : FnScope N_Ledger_copy ["self"] (defScope (inClass (top 85) 21)) := ⟨rfl, rfl, rfl, by decide +kernel, rfl, by decide +kernel, by decide +kernel⟩
theorem c_Ledger_copy (T : Txt w K mg) : Mt P w K mg base CX0 9 T.cLedger "copy" (spCopy T.cLedger T.cBooks T.cTerm) := by
  refine Mt.of T.d_Ledger_copy sc_Ledger_copy (fun _ _ _ _ _ _ us h => by obtain ⟨u0, rfl⟩ := len1 h; rfl) (fun vs H Q E h => by obtain ⟨p, l, S, n, ppl, rfl, hg, hn, ok, q⟩ := h; rfl) fun f cdv A outer s H vs Q E hr h => ?_
  obtain ⟨p, l, S, n, ppl, rfl, hg, hn, ok, q⟩ := h
  refine ⟨_, PSs.nox ((pss_cons (ps_set (i := 1) sc_Ledger_copy.nd rfl (Or.inl rfl) (pk (c_Ledger_init T) (hr.mono (by decide)) pass0 (pa_cons (pe_fldS T.cl_Books T.n_Books_of_county (pe_fldS T.cl_Ledger T.n_Ledger_books (pv 0) rfl) rfl) (pa_cons (pe_fldS T.cl_Books T.n_Books_of_total (pe_fldS T.cl_Ledger T.n_Ledger_books (pv 0) rfl) rfl) (pa_cons (pe_fldS T.cl_Books T.n_Books_of_excused (pe_fldS T.cl_Ledger T.n_Ledger_books (pv 0) rfl) rfl) pa_nil)))))
  (pss_cons (ps_fldS T.cl_Ledger T.n_Ledger_books (pv 1) (pe_fldS T.cl_Ledger T.n_Ledger_books (pv 0) rfl) rfl)
  (pss_cons (ps_fldS T.cl_Ledger T.n_Ledger_behind (pv 1) (pe_callTy call_listS (by rfl) T.f_list boot_list (pa_cons (pe_fldS T.cl_Ledger T.n_Ledger_behind (pv 0) rfl) pa_nil)) rfl)
  (pss_cons (ps_fldS T.cl_Ledger T.n_Ledger_ahead (pv 1) (pe_callTy call_listS (by rfl) T.f_list boot_list (pa_cons (pe_fldS T.cl_Ledger T.n_Ledger_ahead (pv 0) rfl) pa_nil)) rfl)
  (pss_one (ps_ret (pv 1)))))))), ?_⟩
  have hg0 := hg
  obtain ⟨dx, b, d, l2, xs, ys, hp, hl, hxl, hl2, hyl, hbk, ht⟩ := hg
  have hb := hbk
  obtain ⟨bdx, vc, ve, vs, vk, hb, r1, r2, r3, r4⟩ := hb
  refine ⟨_, rfl, p, dx, _, _, rfl, hp, rfl, b, bdx, _, _, rfl, hb, rfl, _, rfl, p, dx, _, _, rfl, hp, rfl, b, bdx, _, _, rfl, hb, rfl, _, rfl, p, dx, _, _, rfl, hp, rfl, b, bdx, _, _, rfl, hb, rfl, fun x dx2 hx hdx hne => ?_⟩
  have s0 : Same H (upd (upd H dx2 (.own x)) x (.ins T.cLedger dx2 [])) := fun a u h => by
    rw [upd_ne (ne_of_none h hx), upd_ne (ne_of_none h hdx)]
    exact h
  refine ⟨x, dx2, vc, ve, S.total, S.county, S.excused, rfl, upd_same, mn s0 r1, ok.co, ok.pos, ok.t0, ok.t1, mn s0 r2, ok.ex, fun l9 H2 keep hl9 hk2 => ⟨rfl, ?_⟩⟩
  have s02 : Same H H2 := fun a u h => keep a u (ne_of_none h hx) (s0 a u h)
  obtain ⟨dx3, b3, d3, l3, xs3, ys3, g3, g4, g5, g6, g7, g8, g9⟩ := hk2
  refine ⟨_, rfl, p, dx, _, _, rfl, s02 _ _ hp, rfl, _, rfl, x, dx3, lgF b3 l9 l3, rfl, g3, lg_few, ?_⟩
  have npx : p ≠ x := ne_of_none hp hx
  have k3 : ∀ o, Same H (upd H2 x o) := fun o a u h => by rw [upd_ne (ne_of_none h hx)]; exact s02 _ _ h
  refine ⟨_, rfl, p, dx, lgF b l l2, .ref l, rfl, k3 _ _ _ hp, rfl, l, xs, rfl, .inl (k3 _ _ _ hl), fun p4 H4 hp4 s4 h4 => ?_⟩
  have n4 : p4 ≠ x := (ne_of_none upd_same hp4).symm
  have hp4H2 : H2 p4 = none := by rw [upd_ne n4] at hp4; exact hp4
  refine ⟨_, rfl, x, dx3, lgF b l9 l3, rfl, s4 _ _ upd_same, lg_few, ?_⟩
  have k4 : ∀ o, Same H (upd H4 x o) := fun o a u h => by rw [upd_ne (ne_of_none h hx)]; exact s4 _ _ (k3 _ _ _ h)
  refine ⟨_, rfl, p, dx, lgF b l l2, .ref l2, rfl, k4 _ _ _ hp, rfl, l2, ys, rfl, .inl (k4 _ _ _ hl2), fun p5 H5 hp5 s5 h5 => ?_⟩
  have n5 : p5 ≠ x := (ne_of_none upd_same hp5).symm
  refine ⟨_, rfl, x, dx3, lgF b p4 l3, rfl, s5 _ _ upd_same, lg_few, ?_⟩
  have k5 : ∀ o, Same H (upd H5 x o) := fun o a u h => by rw [upd_ne (ne_of_none h hx)]; exact s5 _ _ (k4 _ _ _ h)
  refine ⟨_, rfl, q x p4 _ (k5 _) hx (none_back s02 hp4H2) ⟨dx3, b, d, p5, xs, ys, upd_same, ?_, hxl, ?_, hyl, hbk.mono (k5 _), ht.mono (k5 _)⟩⟩
  · rw [upd_ne n4]
    exact s5 _ _ (by rw [upd_ne n4]; exact h4)
  · rw [upd_ne n5]
    exact h5
end
end K5
set_option maxHeartbeats 1000000
namespace K5
open PySem PySem.Spec PyProof.Rows L2
theorem atI_mod {fs : List Int} (hl : fs.length = 64) (k : Int) : atI (fs.map V.int) (k % 64) = some (.int (fs.getD (k % 64).toNat 0)) := by
  have h0 := Int.emod_nonneg k (b := 64) (by decide)
  have h1 := Int.emod_lt_of_pos k (b := 64) (by decide)
  refine atI_int h0 ?_
  rw [List.getElem?_map, List.getD_eq_getElem?_getD, List.getElem?_eq_getElem (by omega)]
  rfl
theorem atI_in {fs : List Int} {k : Int} (h0 : 0 ≤ k) (h1 : k < fs.length) : atI (fs.map V.int) k = some (.int (fs.getD k.toNat 0)) := by
  refine atI_int h0 ?_
  rw [List.getElem?_map, List.getD_eq_getElem?_getD, List.getElem?_eq_getElem (by omega)]
  rfl
theorem ixN_in {n : Nat} {k : Int} (h0 : 0 ≤ k) (h1 : k < n) : ixN n k = some k.toNat := by
  unfold ixN
  rw [if_pos h0, if_pos h1]
/-- a list that may be frozen, walked -/
theorem at_ints {ns : List Int} {i : Nat} {x : V} {d : Int} (h : (ns.map V.int)[i]? = some x) (hd : ns[i]? = some d) : x = .int d := by
  rw [List.getElem?_map, hd] at h
  injection h with h
  exact h.symm
theorem src_sql {K : PySem.W.Frag} {a : Addr} {ns : List Int} : Src (Itl K a) (fun H => SqL K H a (ns.map V.int)) rI ns where
  stop := fun H h => ⟨_, h, by rw [List.length_map]; exact Nat.le_refl _⟩
  go := fun i H hi h => ⟨_, V.int (ns[i]'hi), h, by rw [List.getElem?_map, List.getElem?_eq_getElem hi]; rfl⟩
  yld := fun i H x H' d hd h ⟨e, y⟩ => by
    subst e
    exact ⟨Same.refl _, at_ints (y _ h) hd⟩
theorem src_sqe {K : PySem.W.Frag} {a : Addr} {ns : List Int} : Src (Ite K a) (fun H => SqL K H a (ns.map V.int)) (rP rI rI) (ns.zipIdx.map fun p => ((p.2 : Int), p.1)) where
  stop := fun H h => ⟨_, h, by rw [List.length_map, List.length_map, List.length_zipIdx]; exact Nat.le_refl _⟩
  go := fun i H hi h => by
    rw [List.length_map, List.length_zipIdx] at hi
    exact ⟨_, V.int (ns[i]'hi), h, by rw [List.getElem?_map, List.getElem?_eq_getElem hi]; rfl⟩
  yld := fun i H x H' d hd h y => by
    obtain ⟨T, x', rfl, hT, rfl, f⟩ := y
    rw [List.getElem?_map, List.getElem?_zipIdx] at hd
    cases e : ns[i]? with
    | none => rw [e] at hd; cases hd
    | some d0 =>
      rw [e] at hd
      obtain rfl := (Option.some.inj hd).symm
      have e2 := at_ints (f _ h) e
      exact ⟨Same.new (o := .tup [.int (i : Nat), x']) hT, T, _, x', rfl, upd_same, by show V.int _ = V.int _; simp, e2⟩
def spMixed : Sp := fun vs H Q _ => ∃ c k : Int, vs = [.int c, .int k] ∧ 0 ≤ k ∧ k ≤ 1000000000 ∧ ∀ i : Int, Q (.int i) H
def spFolded (K : PySem.W.Frag) : Sp := fun vs H Q _ => ∃ (a : Addr) (ns : List Int), vs = [.ref a] ∧ SqL K H a (ns.map V.int) ∧ ns.length ≤ 1000 ∧
  ∀ p (fs : List Int) H', Same H H' → H p = none → H' p = some (.lst (fs.map V.int)) → fs.length = 64 → Q (.ref p) H'
/-- the draws: m the dict, c the cells, l what is left -/
def mKvs (c l : Addr) (k : Int) : List (Key × V) := [(Sum.inr "cells", .ref c), (Sum.inr "left", .ref l), (Sum.inr "at", .int k)]
def IsM (H : Hp) (m c l : Addr) (N : Nat) : Prop := ∃ (cs ls : List Int) (k : Int), H m = some (.dK (mKvs c l k)) ∧ H c = some (.lst (cs.map V.int)) ∧ cs.length = 64 ∧ H l = some (.lst (ls.map V.int)) ∧ (∀ x ∈ ls, 0 ≤ x) ∧ ls.length ≤ 100 ∧ c ≠ l ∧ 0 ≤ k ∧ k ≤ N
theorem IsM.mono {H H' : Hp} {m c l : Addr} {N : Nat} (s : Same H H') (h : IsM H m c l N) : IsM H' m c l N := by
  obtain ⟨cs, ls, k, h1, h2, h3, h4, h5, h6, h7, h8, h9⟩ := h
  exact ⟨cs, ls, k, s _ _ h1, s _ _ h2, h3, s _ _ h4, h5, h6, h7, h8, h9⟩
theorem IsM.le {H : Hp} {m c l : Addr} {N M : Nat} (hN : N ≤ M) (h : IsM H m c l N) : IsM H m c l M := by
  obtain ⟨cs, ls, k, h1, h2, h3, h4, h5, h6, h7, h8, h9⟩ := h
  exact ⟨cs, ls, k, h1, h2, h3, h4, h5, h6, h7, h8, by omega⟩
theorem IsM.tk {H H' : Hp} {m c l : Addr} {N : Nat} (h : IsM H m c l N) (x : Bar m l H H') : Tk H H' := by
  obtain ⟨cs, ls, k, h1, h2, h3, h4, _⟩ := h
  exact x.tk (fun xs e => by rw [h1] at e; cases e) (fun xs e => by rw [h4] at e; cases e)
def spDraw : Sp := fun vs H Q _ => ∃ m c l N, ∃ many : Int, vs = [.ref m, .int many] ∧ IsM H m c l N ∧ N ≤ 100000000 ∧ 1 ≤ many ∧ many < 1073741824 ∧
  ∀ (i : Int) H', Bar m l H H' → IsM H' m c l (N + 1) → 0 ≤ i → i < many → Q (.int i) H'
def spBegun (K : PySem.W.Frag) : Sp := fun vs H Q _ => ∃ (a : Addr) (ns : List Int), vs = [.ref a] ∧ SqL K H a (ns.map V.int) ∧ ns.length ≤ 63 ∧
  ∀ m c l H', Same H H' → H m = none → H c = none → H l = none → IsM H' m c l 0 → Q (.ref m) H'
section
variable {P : Program} {w : World} {K : PySem.W.Frag} {mg : Str → Option Value} {base : Heap}
abbrev N__law_mixed : List Str := ["_law_cell", "_law_k", "_law_number"]
theorem sc__law_mixed : FnScope N__law_mixed ["_law_cell", "_law_k"] (defScope (top 87)) := ⟨rfl, rfl, rfl, by decide +kernel, rfl, by decide +kernel, by decide +kernel⟩
theorem c__law_mixed (T : Txt w K mg) : Cl P w K mg base CX0 1 "_law_mixed" spMixed := by
  refine Cl.of T.d__law_mixed sc__law_mixed (fun _ _ _ _ _ _ us h => by obtain ⟨u0, u1, rfl⟩ := len2 h; rfl) (fun vs H Q E h => by obtain ⟨c, k, rfl, h0, h1, q⟩ := h; rfl) fun f cdv A outer s H vs Q E hr h => ?_
  obtain ⟨c, k, rfl, h0, h1, q⟩ := h
  refine ⟨_, PSs.nox ((pss_cons (ps_set (i := 2) sc__law_mixed.nd rfl (Or.inl rfl) (pe_op op_add (pe_op op_add (pe_op op_mod (pe_op op_mul (pe_op op_mul (pv 0) (pe_op op_add pe_int (pe_op op_mul pe_int (pv 1)))) pe_int) pe_int) (pe_op op_mul (pe_op op_mul pe_int (pv 1)) (pv 1))) (pe_op op_mul pe_int (pv 1))))
  (pss_one (ps_ret (pe_op op_fdiv (pe_op op_mod (pe_op op_mul (pv 2) pe_int) pe_int) pe_int))))), ?_⟩
  refine ⟨_, rfl, _, rfl, _, _, rfl, rfl, .inl ⟨by decide, by decide⟩, _, _, rfl, rfl, _, _, rfl, rfl, .inr ⟨by omega, by omega⟩, _, _, rfl, rfl, .inr ⟨by decide, by decide⟩, _, _, rfl, rfl, (by show (0 : Int) < 2147483647; decide), _, rfl, _, _, rfl, rfl, .inl ⟨by decide, by decide⟩, _, rfl, _, _, rfl, rfl, .inr ⟨by omega, by omega⟩, _, _, rfl, rfl, _, rfl, _, _, rfl, rfl, .inl ⟨by decide, by decide⟩, _, _, rfl, rfl, ?_⟩
  exact ⟨_, rfl, _, _, rfl, rfl, .inr ⟨by decide, by decide⟩, _, _, rfl, rfl, (by show (0 : Int) < 2147483629; decide), _, _, rfl, rfl, ⟨by decide, by decide⟩, q _⟩
abbrev N__law_folded : List Str := ["_law_script", "_law_found", "_law_k", "_law_cell"]
theorem sc__law_folded : FnScope N__law_folded ["_law_script"] (defScope (top 88)) := ⟨rfl, rfl, rfl, by decide +kernel, rfl, by decide +kernel, by decide +kernel⟩
theorem c__law_folded (T : Txt w K mg) : Cl P w K mg base CX0 1 "_law_folded" (spFolded K) := by
  refine Cl.of T.d__law_folded sc__law_folded (fun _ _ _ _ _ _ us h => by obtain ⟨u0, rfl⟩ := len1 h; rfl) (fun vs H Q E h => by obtain ⟨a, ns, rfl, ha, hl, q⟩ := h; rfl) fun f cdv A outer s H vs Q E hr h => ?_
  obtain ⟨a, ns, rfl, ha, hl, q⟩ := h
  refine ⟨_, PSs.nox ((pss_cons (ps_setLcS (i := 1) (own := [("_law_k", 2)]) rfl sc__law_folded.nd rfl rfl (sw_true rfl rfl rfl (by decide +kernel)) (pi_range1 rfl T.f_range (pa_cons pe_int pa_nil)) (blkOk_by (own := [("_law_k", 2)]) (N := N__law_folded) (sc := defScope (top 88)) (by decide +kernel)) (fun _ _ _ _ _ => (pg_name (i := 2) sc__law_folded.nd rfl (Or.inl rfl))) (fun _ _ _ _ _ => pts_nil) (fun _ _ _ _ _ => (pe_op op_add pe_int (pv 2))))
  (pss_cons (ps_for PassesOwn.never rfl (pi_enum (by rfl) T.f_enumerate (pa_cons (pv 0) pa_nil)) (pg_tupS (n := 2) rfl (pgs_cons (pg_name (i := 2) sc__law_folded.nd rfl (Or.inl rfl)) (pgs_cons (pg_name (i := 3) sc__law_folded.nd rfl (Or.inl rfl)) pgs_nil)))
  (pss_one (ps_asg (pe_op op_mod (pe_op op_add (pe_op op_mul (pe_ix ix_listS (pv 1) (pe_op op_mod (pv 2) pe_int) (fun _ _ => rfl)) pe_int) (pv 3)) pe_int) (pg_sub (pv 1) (pe_op op_mod (pv 2) pe_int) set_list))))
  (pss_cons (ps_for PassesOwn.never rfl (pi_range2 rfl T.f_range (pa_cons pe_int (pa_cons pe_int pa_nil))) (pg_name (i := 2) sc__law_folded.nd rfl (Or.inl rfl))
  (pss_one (ps_asg (pe_op op_mod (pe_op op_add (pe_ix ix_listS (pv 1) (pv 2) (fun _ _ => rfl)) (pe_op op_mul (pe_ix ix_listS (pv 1) (pe_op op_sub (pv 2) pe_int) (fun _ _ => rfl)) pe_int)) pe_int) (pg_sub (pv 1) (pv 2) set_list))))
  (pss_one (ps_ret (pv 1))))))), ?_⟩
  refine ⟨64, rfl, by decide, by decide, fun D hD => ?_⟩
  refine lcM (A := rI) (B := rI) (ds := (List.range (64 : Int).toNat).map fun i : Nat => (0 : Int) + (i : Int)) src_range (fun k => 17 + k) hD (by decide) (fun H1 s1 => True.intro) (fun i d x H1 hd s1 r => ?_) fun acc H1 s1 hD1 pa => ?_
  · obtain rfl : x = .int d := r
    exact ⟨rfl, _, rfl, _, _, rfl, rfl, Same.refl _, rfl⟩
  have ep := pr_int pa
  have hlen : (((List.range (64 : Int).toNat).map fun i : Nat => (0 : Int) + (i : Int)).map fun k => 17 + k).length = 64 := by simp
  generalize (((List.range (64 : Int).toNat).map fun i : Nat => (0 : Int) + (i : Int)).map fun k => 17 + k) = fs0 at *
  subst ep
  refine ⟨_, rfl, a, _, rfl, s1.seq ha, ?_⟩
  refine forS (A := rP rI rI) (ds := ns.zipIdx.map fun p => ((p.2 : Int), p.1)) src_sqe (Pv := fun i σ H2 => ∃ x2 x3, ∃ fs : List Int, σ = [some (.ref a), some (.ref D), x2, x3] ∧ Same H H2 ∧ H2 D = some (.lst (fs.map V.int)) ∧ fs.length = 64) ?_ ?_ ?_ ?_
  · exact ⟨_, _, fs0, rfl, s1, hD1, hlen⟩
  · rintro i σ H2 hi ⟨x2, x3, fs, rfl, s2, h2, l2⟩
    exact s2.seq ha
  · rintro i d x σ H2 H3 hd ⟨x2, x3, fs, rfl, s2, h2, l2⟩ s3 r
    obtain ⟨T0, y1, y2, rfl, hT, rfl, rfl⟩ := r
    have h3 := s3 _ _ h2
    have m0 := Int.emod_nonneg d.1 (b := 64) (by decide)
    have m1 := Int.emod_lt_of_pos d.1 (b := 64) (by decide)
    refine ⟨T0, _, rfl, hT, rfl, _, _, rfl, _, _, rfl, rfl, ?_⟩
    refine ⟨_, rfl, _, rfl, _, _, rfl, rfl, (by show (0 : Int) < 64; decide), D, _, _, _, rfl, rfl, h3, atI_mod l2 _, _, _, rfl, rfl, .inr ⟨by decide, by decide⟩, _, rfl, _, _, rfl, rfl, _, _, rfl, rfl, (by show (0 : Int) < 2147483647; decide), _, rfl, _, rfl, _, _, rfl, rfl, (by show (0 : Int) < 64; decide), D, _, _, _, rfl, rfl, h3, ixN_in m0 (by rw [List.length_map, l2]; exact m1), ?_⟩
    refine ⟨_, _, fs.set (d.1 % 64).toNat _, rfl, (s2.trans s3).mut hD, by rw [upd_same, List.map_set], by rw [List.length_set]; exact l2⟩
  rintro σ H2 ⟨x2, x3, fs, rfl, s2, h2, l2⟩
  refine ⟨1, 64, rfl, ⟨by decide, by decide, by decide, by decide⟩, ?_⟩
  refine forS (A := rI) (ds := (List.range (64 - 1 : Int).toNat).map fun i : Nat => (1 : Int) + (i : Int)) src_range (Pv := fun i σ H4 => ∃ x2, ∃ fs : List Int, σ = [some (.ref a), some (.ref D), x2, x3] ∧ Same H H4 ∧ H4 D = some (.lst (fs.map V.int)) ∧ fs.length = 64) ?_ ?_ ?_ ?_
  · exact ⟨_, fs, rfl, s2, h2, l2⟩
  · exact fun _ _ _ _ _ => True.intro
  · rintro i d x σ H4 H5 hd ⟨y2, gs, rfl, s4, h4, l4⟩ s5 r
    obtain rfl : x = .int d := r
    have h5 := s5 _ _ h4
    have hd2 : 1 ≤ d ∧ d < 64 := by
      have hm := List.mem_of_getElem? hd
      obtain ⟨j, hj, rfl⟩ := List.mem_map.mp hm
      have := List.mem_range.mp hj
      have e : (64 - 1 : Int).toNat = 63 := rfl
      rw [e] at this
      omega
    refine ⟨_, rfl, _, rfl, D, _, _, _, rfl, rfl, h5, atI_in (by omega) (by omega), _, rfl, _, rfl, _, _, rfl, rfl, D, _, _, _, rfl, rfl, h5, atI_in (by omega) (by omega), _, _, rfl, rfl, .inr ⟨by decide, by decide⟩, _, _, rfl, rfl, _, _, rfl, rfl, (by show (0 : Int) < 2147483647; decide), _, rfl, _, rfl, D, _, _, _, rfl, rfl, h5, ixN_in (by omega) (by rw [List.length_map]; omega), ?_⟩
    refine ⟨_, gs.set d.toNat _, rfl, (s4.trans s5).mut hD, by rw [upd_same, List.map_set], by rw [List.length_set]; exact l4⟩
  · rintro σ H4 ⟨y2, gs, rfl, s4, h4, l4⟩
    exact ⟨_, rfl, q D gs H4 s4 hD h4 l4⟩
end
end K5
set_option maxHeartbeats 1000000
namespace K5
open PySem PySem.Spec PyProof.Rows L2
theorem dg_at {H : Hp} {m c l : Addr} {k : Int} (h : H m = some (.dK (mKvs c l k))) : DGet H m (.str "at") (some (.int k)) := DGet.k (k := Sum.inr "at") h
theorem dg_left {H : Hp} {m c l : Addr} {k : Int} (h : H m = some (.dK (mKvs c l k))) : DGet H m (.str "left") (some (.ref l)) := DGet.k (k := Sum.inr "left") h
theorem dg_cells {H : Hp} {m c l : Addr} {k : Int} (h : H m = some (.dK (mKvs c l k))) : DGet H m (.str "cells") (some (.ref c)) := DGet.k (k := Sum.inr "cells") h
theorem dp_at {H : Hp} {m c l : Addr} {k j : Int} (h : H m = some (.dK (mKvs c l k))) : DPut H m (.str "at") (.int j) (upd H m (.dK (mKvs c l j))) := DPut.k (k := Sum.inr "at") (v := .int j) h (line_lt (by show 3 ≤ 1000000; decide))
theorem dp_left {H : Hp} {m c l l2 : Addr} {k : Int} (h : H m = some (.dK (mKvs c l k))) : DPut H m (.str "left") (.ref l2) (upd H m (.dK (mKvs c l2 k))) := DPut.k (k := Sum.inr "left") (v := .ref l2) h (line_lt (by show 3 ≤ 1000000; decide))
section
variable {P : Program} {w : World} {K : PySem.W.Frag} {mg : Str → Option Value} {base : Heap}
abbrev N__law_draw : List Str := ["_law_m", "_law_many", "_law_k", "_law_at", "_law_cell"]
theorem sc__law_draw : FnScope N__law_draw ["_law_m", "_law_many"] (defScope (top 89)) := ⟨rfl, rfl, rfl, by decide +kernel, rfl, by decide +kernel, by decide +kernel⟩
theorem c__law_draw (T : Txt w K mg) : Cl P w K mg base CX0 2 "_law_draw" spDraw := by
  refine Cl.of T.d__law_draw sc__law_draw (fun _ _ _ _ _ _ us h => by obtain ⟨u0, u1, rfl⟩ := len2 h; rfl) (fun vs H Q E h => by obtain ⟨m, c, l, N, many, rfl, hM, hN, hm0, hm1, q⟩ := h; rfl) fun f cdv A outer s H vs Q E hr h => ?_
  obtain ⟨m, c, l, N, many, rfl, hM, hN, hm0, hm1, q⟩ := h
  refine ⟨_, PSs.nox ((pss_cons (ps_set (i := 2) sc__law_draw.nd rfl (Or.inl rfl) (pe_dget (hu_of hr) (pv 0) pe_str (fun _ _ => rfl)))
  (pss_cons (ps_dput (hu_of hr) (pv 0) pe_str (pe_op op_add (pv 2) pe_int) rfl)
  (pss_cons (ps_if (pt_cmpR (op_neNil hr.units) (pe_dget (hu_of hr) (pv 0) pe_str (fun _ _ => rfl)) (pe_lstS pa_nil) (nomark _)) (pss_cons (ps_set (i := 3) sc__law_draw.nd rfl (Or.inl rfl) (pe_op op_mod (pv 2) (pe_callB call_lenS (by rfl) T.f_len boot_len (pa_cons (pe_dget (hu_of hr) (pv 0) pe_str (fun _ _ => rfl)) pa_nil))))
  (pss_cons (ps_set (i := 4) sc__law_draw.nd rfl (Or.inl rfl) (pe_ix ix_listS (pe_dget (hu_of hr) (pv 0) pe_str (fun _ _ => rfl)) (pv 3) (fun _ _ => rfl)))
  (pss_one (ps_if (pt_cmpR op_gt (pv 4) pe_int (nomark _)) (pss_cons (ps_asg (pe_op op_fdiv (pv 4) (pv 1)) (pg_sub (pe_dget (hu_of hr) (pv 0) pe_str (fun _ _ => rfl)) (pv 3) set_list))
  (pss_one (ps_ret (pe_op op_mod (pv 4) (pv 1))))) pss_nil)))) pss_nil)
  (pss_one (ps_ret (pe_op op_mod (pc (c__law_mixed T) (hr.mono (by decide)) pass0 (pa_cons (pc (c__law_mixed T) (hr.mono (by decide)) pass0 (pa_cons (pe_op op_add (pe_ix ix_listS (pe_dget (hu_of hr) (pv 0) pe_str (fun _ _ => rfl)) (pe_op op_mod (pv 2) pe_int) (fun _ _ => rfl)) (pe_op op_mul pe_int (pe_op op_fdiv (pv 2) pe_int))) (pa_cons (pv 2) pa_nil))) (pa_cons (pe_op op_add (pv 2) pe_int) pa_nil))) (pv 1)))))))), ?_⟩
  obtain ⟨cs, ls, k, hm, hc, hcl, hl, hls, hll, ncl, h0, h1⟩ := hM
  have nml : m ≠ l := ne_of hm hl (by intro z; cases z)
  have nmc : m ≠ c := ne_of hm hc (by intro z; cases z)
  refine ⟨_, rfl, m, _, rfl, dg_at hm, ?_⟩
  refine ⟨_, rfl, _, _, rfl, rfl, _, rfl, m, _, rfl, dp_at hm, ?_⟩
  have x01 : Bar m l H (upd H m (.dK (mKvs c l (k + 1)))) := Bar.put
  have g1 : upd H m (.dK (mKvs c l (k + 1))) m = some (.dK (mKvs c l (k + 1))) := upd_same
  have gc : upd H m (.dK (mKvs c l (k + 1))) c = some (.lst (cs.map V.int)) := by rw [upd_ne (Ne.symm nmc)]; exact hc
  have gl : upd H m (.dK (mKvs c l (k + 1))) l = some (.lst (ls.map V.int)) := by rw [upd_ne (Ne.symm nml)]; exact hl
  have hM1 : IsM (upd H m (.dK (mKvs c l (k + 1)))) m c l (N + 1) := ⟨cs, ls, k + 1, g1, gc, hcl, gl, hls, hll, ncl, by omega, by omega⟩
  generalize upd H m (.dK (mKvs c l (k + 1))) = H1 at *
  refine ⟨_, rfl, m, _, rfl, dg_left g1, le0, fun p2 H2 hp2 s2 h2 => ?_⟩
  refine ⟨Int, rI, inferInstance, l, p2, _, ls, rfl, rfl, s2 _ _ gl, int_pr _, (fun _ _ => True.intro), by decide, h2, _, rfl, ite2 (fun hne => ?_) (fun _ => ?_)⟩
  · have hpos : 0 < ls.length := by
      cases ls with
      | nil => simp at hne
      | cons a b => simp
    have g2 := s2 _ _ g1
    have gl2 := s2 _ _ gl
    refine ⟨_, rfl, _, rfl, m, _, rfl, dg_left g2, l, _, rfl, .inl gl2, _, _, rfl, rfl, (by rw [List.length_map]; omega), ?_⟩
    rw [List.length_map]
    have a0 := Int.emod_nonneg k (b := (ls.length : Int)) (by omega)
    have a1 := Int.emod_lt_of_pos k (b := (ls.length : Int)) (by omega)
    refine ⟨_, rfl, m, _, rfl, dg_left g2, _, rfl, l, _, _, _, rfl, rfl, gl2, atI_in a0 a1, ?_⟩
    refine ⟨_, rfl, _, _, rfl, rfl, _, rfl, ite2 (fun hc0 => ?_) (fun _ => ?_)⟩
    · have hc0 : 0 < ls.getD (k % (ls.length : Int)).toNat 0 := of_decide_eq_true hc0
      refine ⟨_, rfl, _, rfl, _, _, rfl, rfl, ⟨by omega, hm1⟩, _, rfl, m, _, rfl, dg_left g2, _, rfl, l, _, _, _, rfl, rfl, gl2, ixN_in a0 (by rw [List.length_map]; exact a1), ?_⟩
      refine ⟨_, rfl, _, rfl, _, _, rfl, rfl, hm0, ?_⟩
      rw [← List.map_set]
      refine q _ _ (Bar.trans x01 (Bar.trans s2.bar Bar.put2)) ⟨cs, ls.set (k % (ls.length : Int)).toNat (ls.getD (k % (ls.length : Int)).toNat 0 / many), k + 1, by rw [upd_ne nml]; exact g2, by rw [upd_ne ncl]; exact s2 _ _ gc, hcl, upd_same, fun x hx => ?_, by rw [List.length_set]; exact hll, ncl, by omega, by omega⟩ (Int.emod_nonneg _ (by omega)) (Int.emod_lt_of_pos _ hm0)
      rcases List.mem_or_eq_of_mem_set hx with z | z
      · exact hls x z
      · rw [z]
        exact Int.ediv_nonneg (by omega) (by omega)
    · refine ⟨_, rfl, m, _, rfl, dg_cells (s2 _ _ g1), _, rfl, _, _, rfl, rfl, (by show (0 : Int) < 64; decide), c, _, _, _, rfl, rfl, (s2 _ _ gc), atI_mod hcl _, _, rfl, _, _, rfl, rfl, ⟨by decide, by decide⟩, _, _, rfl, rfl, .inl ⟨by decide, by decide⟩, _, _, rfl, rfl, _, rfl, _, k, rfl, h0, by omega, fun i1 => ⟨_, rfl, _, _, rfl, rfl, i1, k + 7, rfl, by omega, by omega, fun i2 => ⟨_, rfl, _, _, rfl, rfl, hm0, ?_⟩⟩⟩
      exact q _ _ (Bar.trans x01 s2.bar) (hM1.mono s2) (Int.emod_nonneg _ (by omega)) (Int.emod_lt_of_pos _ hm0)
  · refine ⟨_, rfl, m, _, rfl, dg_cells (s2 _ _ g1), _, rfl, _, _, rfl, rfl, (by show (0 : Int) < 64; decide), c, _, _, _, rfl, rfl, (s2 _ _ gc), atI_mod hcl _, _, rfl, _, _, rfl, rfl, ⟨by decide, by decide⟩, _, _, rfl, rfl, .inl ⟨by decide, by decide⟩, _, _, rfl, rfl, _, rfl, _, k, rfl, h0, by omega, fun i1 => ⟨_, rfl, _, _, rfl, rfl, i1, k + 7, rfl, by omega, by omega, fun i2 => ⟨_, rfl, _, _, rfl, rfl, hm0, ?_⟩⟩⟩
    exact q _ _ (Bar.trans x01 s2.bar) (hM1.mono s2) (Int.emod_nonneg _ (by omega)) (Int.emod_lt_of_pos _ hm0)
abbrev N__law_begun : List Str := ["_law_script", "_law_m", "_law_cell"]
theorem sc__law_begun : FnScope N__law_begun ["_law_script"] (defScope (top 90)) := ⟨rfl, rfl, rfl, by decide +kernel, rfl, by decide +kernel, by decide +kernel⟩
theorem c__law_begun (T : Txt w K mg) : Cl P w K mg base CX0 2 "_law_begun" (spBegun K) := by
  refine Cl.of T.d__law_begun sc__law_begun (fun _ _ _ _ _ _ us h => by obtain ⟨u0, rfl⟩ := len1 h; rfl) (fun vs H Q E h => by obtain ⟨a, ns, rfl, ha, hl, q⟩ := h; rfl) fun f cdv A outer s H vs Q E hr h => ?_
  obtain ⟨a, ns, rfl, ha, hl, q⟩ := h
  refine ⟨_, PSs.nox ((pss_cons (ps_set (i := 1) sc__law_begun.nd rfl (Or.inl rfl) (pe_disp (pps_cons pe_str (pc (c__law_folded T) (hr.mono (by decide)) pass0 (pa_cons (pv 0) pa_nil)) (pps_cons pe_str (pe_lstS pa_nil) (pps_cons pe_str pe_int pps_nil))) (by rfl) (by rfl) (fun z => by cases z) (by decide)))
  (pss_cons (ps_dput (hu_of hr) (pv 1) pe_str (pe_lcS (own := [("_law_cell", 2)]) (by rfl) sc__law_begun.nd (pi_list (pv 0)) (blkOk_by (own := [("_law_cell", 2)]) (N := N__law_begun) (sc := defScope (top 90)) (by decide +kernel)) (fun _ _ _ _ _ => (pg_name (i := 2) sc__law_begun.nd rfl (Or.inl rfl))) (fun _ _ _ _ _ => pts_nil) (fun _ _ _ _ _ => (L2.PE.cl (pe_ifExp (pt_cmpR op_ge (pv 2) (pe_op op_pow pe_int pe_int) (nomark _)) (pv 2) pe_int)))) rfl)
  (pss_one (ps_ret (pv 1)))))), ?_⟩
  refine fun p hp => ?_
  have s0 : Same H (upd H p (.dK [])) := Same.new hp
  have hp0 := upd_same (H := H) (a := p) (o := .dK [])
  generalize upd H p (.dK []) = H0 at *
  refine ⟨_, rfl, a, ns, rfl, s0.seq ha, by omega, fun c fs H1 s1 hc1 h1 hfl => ⟨le0, fun l0 H2 hl0 s2 h2 => ?_⟩⟩
  have s12 := s1.trans s2
  have hp2 := s12 _ _ hp0
  refine ⟨hp2, mKvs c l0 0, rfl, (by show 3 ≤ 15; decide), ?_⟩
  have s02 := s0.trans s12
  have e3 : mergeK [] (mKvs c l0 0) = mKvs c l0 0 := rfl
  rw [e3]
  have s3 : Same H (upd H2 p (.dK (mKvs c l0 0))) := s02.mut hp
  have hp3 := upd_same (H := H2) (a := p) (o := .dK (mKvs c l0 0))
  have ncp : c ≠ p := (ne_of_none hp0 hc1).symm
  have hc3 : upd H2 p (.dK (mKvs c l0 0)) c = some (.lst (fs.map V.int)) := by rw [upd_ne ncp]; exact s2 _ _ h1
  generalize upd H2 p (.dK (mKvs c l0 0)) = H3 at *
  refine ⟨_, rfl, a, rfl, ⟨_, s3.seq ha⟩, fun D hD => ?_⟩
  refine lcM (A := rI) (B := rI) (ds := ns) src_sql (fun x => if (10 : Int) ^ (18 : Int).toNat ≤ x then x else 0) hD (by omega) (fun H4 s4 => s4.seq (s3.seq ha)) (fun i d x H4 hd s4 r => ?_) fun acc H4 s4 hD4 pa => ?_
  · obtain rfl : x = .int d := r
    refine ⟨rfl, fun v H' => H' = H4 ∧ v = .int (if (10 : Int) ^ (18 : Int).toNat ≤ d then d else 0), ⟨_, rfl, _, _, rfl, rfl, ⟨by decide, by decide, by decide⟩, _, _, rfl, rfl, _, rfl, ite2 (fun z => ?_) (fun z => ?_)⟩, fun v H' hR => ?_⟩
    · have z : (10 : Int) ^ (18 : Int).toNat ≤ d := of_decide_eq_true z
      exact ⟨_, rfl, rfl, by rw [if_pos z]⟩
    · have z : ¬ (10 : Int) ^ (18 : Int).toNat ≤ d := fun y => z (decide_eq_true y)
      exact ⟨rfl, by rw [if_neg z]⟩
    · obtain ⟨rfl, rfl⟩ := hR
      exact ⟨Same.refl _, rfl⟩
  have hp4 := s4 _ _ hp3
  have ncD : c ≠ D := ne_of_none hc3 hD
  have nDp : D ≠ p := (ne_of_none hp3 hD).symm
  refine ⟨_, rfl, p, _, rfl, dp_left hp4, ?_⟩
  have ep := pr_int pa
  refine ⟨_, rfl, q p c D _ ((s3.trans s4).mut hp) hp (none_back s0 hc1) (none_back s3 hD) ⟨fs, _, 0, upd_same, by rw [upd_ne ncp]; exact s4 _ _ hc3, hfl, by rw [upd_ne nDp, hD4, ep], fun x hx => ?_, by rw [List.length_map]; omega, ncD, Int.le_refl _, Int.le_refl _⟩⟩
  obtain ⟨y, hy, rfl⟩ := List.mem_map.mp hx
  show 0 ≤ (if (10 : Int) ^ (18 : Int).toNat ≤ y then y else 0)
  split
  · rename_i h
    have : (0 : Int) ≤ (10 : Int) ^ (18 : Int).toNat := by decide
    omega
  · exact Int.le_refl _
end
end K5
set_option maxHeartbeats 1000000
namespace K5
open PySem PySem.Spec PyProof.Rows L2
theorem cps_app (x y : Str) : (x ++ y).cps.toList = x.cps.toList ++ y.cps.toList := by
  show (x.cps ++ y.cps).toList = _
  simp
theorem len_app (x y : Str) : (x ++ y).length = x.length + y.length := by
  show (x.cps ++ y.cps).size = _
  simp [Str.length]
theorem len_cps (x : Str) : x.length = x.cps.toList.length := by
  show x.cps.size = _
  simp
def vowY : List Nat := [97, 101, 105, 111, 117, 121]
/-- a made name by its first letter -/
def Nm (j : Nat) (z : Str) : Prop := ∃ c2 tail, z.cps.toList = (97 + j) :: c2 :: tail ∧ j < 26 ∧ 97 ≤ c2 ∧ c2 < 123 ∧ (∀ t ∈ tail, t ∈ vowY) ∧ tail.length ≤ 6
theorem letters_in {x : Nat} (h0 : 97 ≤ x) (h1 : x < 123) : x ∈ letters.cps.toList := by
  have e : ∀ j < 26, (97 + j) ∈ letters.cps.toList := by decide +kernel
  have := e (x - 97) (by omega)
  rwa [show 97 + (x - 97) = x by omega] at this
theorem Nm.ok {j : Nat} {z : Str} (h : Nm j z) : NameOk z := by
  obtain ⟨c2, tail, e, hj, h2, h3, ht, hl⟩ := h
  have el : z.length = tail.length + 2 := by rw [len_cps, e]; rfl
  refine ⟨by omega, by omega, ?_, fun c hc => ?_⟩
  · have : inV (.str z) ((["parish", "house", "held"] : List Str).map V.str) = false := by
      rw [inV_strs]
      refine decide_eq_false fun hm => ?_
      have k1 : ("parish" : Str).cps.toList = [112, 97, 114, 105, 115, 104] := by decide +kernel
      have k2 : ("house" : Str).cps.toList = [104, 111, 117, 115, 101] := by decide +kernel
      have k3 : ("held" : Str).cps.toList = [104, 101, 108, 100] := by decide +kernel
      have hm : z = "parish" ∨ z = "house" ∨ z = "held" := by simpa using hm
      rcases hm with rfl | rfl | rfl
      · rw [k1] at e
        injection e with _ e
        injection e with _ e
        have := ht 114 (by rw [← e]; simp)
        exact absurd this (by decide)
      · rw [k2] at e
        injection e with _ e
        injection e with _ e
        have := ht 115 (by rw [← e]; simp)
        exact absurd this (by decide)
      · rw [k3] at e
        injection e with _ e
        injection e with _ e
        have := ht 108 (by rw [← e]; simp)
        exact absurd this (by decide)
    exact this
  · rw [e] at hc
    rcases List.mem_cons.mp hc with rfl | hc
    · exact letters_in (by omega) (by omega)
    · rcases List.mem_cons.mp hc with rfl | hc
      · exact letters_in h2 h3
      · have := ht c hc
        have e2 : ∀ t ∈ vowY, 97 ≤ t ∧ t < 123 := by decide
        exact letters_in (e2 c this).1 (e2 c this).2
theorem Nm.ne_q {j : Nat} {z : Str} (h : Nm j z) : z ≠ "qqq" := by
  obtain ⟨c2, tail, e, hj, h2, h3, ht, hl⟩ := h
  rintro rfl
  have k : ("qqq" : Str).cps.toList = [113, 113, 113] := by decide +kernel
  rw [k] at e
  injection e with _ e
  injection e with _ e
  have := ht 113 (by rw [← e]; simp)
  exact absurd this (by decide)
theorem Nm.first {i j : Nat} {z : Str} (h : Nm i z) (g : Nm j z) : i = j := by
  obtain ⟨c2, tail, e, _⟩ := h
  obtain ⟨d2, tail2, e2, _⟩ := g
  rw [e] at e2
  injection e2 with e2
  omega
theorem Nm.len {j : Nat} {z : Str} (h : Nm j z) : 2 ≤ z.length ∧ z.length ≤ 8 := by
  obtain ⟨c2, tail, e, hj, h2, h3, ht, hl⟩ := h
  have el : z.length = tail.length + 2 := by rw [len_cps, e]; rfl
  omega
/-- the first letter's place of the k-th name -/
def l1 (sh st : Int) (k : Nat) : Nat := ((sh + st * k) % 26).toNat
def strides : List Int := [1, 3, 5, 7, 9, 11, 15, 17, 19, 21, 23, 25]
theorem stride_inj : ∀ s ∈ strides, ∀ a < 26, ∀ b < 26, (s * (a : Nat)) % 26 = (s * (b : Nat)) % 26 → a = b := by decide +kernel
theorem l1_inj {sh st : Int} (hs : st ∈ strides) {a b : Nat} (ha : a < 26) (hb : b < 26) (h : l1 sh st a = l1 sh st b) : a = b := by
  refine stride_inj st hs a ha b hb ?_
  unfold l1 at h
  have h1 := Int.emod_nonneg (sh + st * a) (b := 26) (by decide)
  have h2 := Int.emod_nonneg (sh + st * b) (b := 26) (by decide)
  have h3 : (sh + st * a) % 26 = (sh + st * b) % 26 := by omega
  omega
theorem l1_lt (sh st : Int) (k : Nat) : l1 sh st k < 26 := by
  unfold l1
  have h1 := Int.emod_nonneg (sh + st * k) (b := 26) (by decide)
  have h2 := Int.emod_lt_of_pos (sh + st * k) (b := 26) (by decide)
  omega
def NsOk (sh st : Int) (ns : List Str) : Prop := ∀ i z, ns[i]? = some z → (Nm (l1 sh st i) z ∧ z.length ≤ 7) ∨ (i % 2 = 1 ∧ ∃ y, ns[i - 1]? = some y ∧ Nm (l1 sh st (i - 1)) z ∧ z.length = y.length + 1)
theorem NsOk.nil {sh st : Int} : NsOk sh st [] := fun i z h => by simp at h
theorem NsOk.nm {sh st : Int} {ns : List Str} (h : NsOk sh st ns) : ∀ z ∈ ns, ∃ j, Nm j z := fun z hz => by
  obtain ⟨i, hi⟩ := List.mem_iff_getElem?.mp hz
  rcases h i z hi with g | ⟨_, _, _, g, _⟩
  · exact ⟨_, g.1⟩
  · exact ⟨_, g⟩
theorem NsOk.snoc {sh st : Int} {ns : List Str} {z : Str} (h : NsOk sh st ns) (hz : (Nm (l1 sh st ns.length) z ∧ z.length ≤ 7) ∨ (ns.length % 2 = 1 ∧ ∃ y, ns[ns.length - 1]? = some y ∧ Nm (l1 sh st (ns.length - 1)) z ∧ z.length = y.length + 1)) : NsOk sh st (ns ++ [z]) := fun i u hu => by
  by_cases hi : i < ns.length
  · rw [List.getElem?_append_left hi] at hu
    rcases h i u hu with g | ⟨g1, y, g2, g3⟩
    · exact .inl g
    · exact .inr ⟨g1, y, by rw [List.getElem?_append_left (by omega)]; exact g2, g3⟩
  · have e : i = ns.length := by
      have := (List.getElem?_eq_some_iff.mp hu).1
      rw [List.length_append, List.length_singleton] at this
      omega
    subst e
    have e2 : u = z := by simpa using hu.symm
    subst e2
    rcases hz with g | ⟨g1, y, g2, g3⟩
    · exact .inl g
    · exact .inr ⟨g1, y, by rw [List.getElem?_append_left (by omega)]; exact g2, g3⟩
theorem NsOk.nodup {sh st : Int} {ns : List Str} (hs : st ∈ strides) (hl : ns.length ≤ 26) (h : NsOk sh st ns) : ns.Nodup := by
  rw [List.nodup_iff_pairwise_ne, List.pairwise_iff_getElem]
  intro i j hi hj hij e
  have gi := List.getElem?_eq_getElem hi
  have gj := List.getElem?_eq_getElem hj
  rw [← e] at gj
  generalize ns[i] = z at *
  rcases h i z gi with ⟨a1, a2⟩ | ⟨a0, y, a1, a2, a3⟩
  · rcases h j z gj with ⟨b1, b2⟩ | ⟨b0, y2, b1, b2, b3⟩
    · have := l1_inj hs (by omega) (by omega) (a1.first b1)
      omega
    · have := l1_inj hs (by omega) (by omega) (a1.first b2)
      have e3 : j - 1 = i := by omega
      rw [e3, gi] at b1
      injection b1 with b1
      rw [← b1] at b3
      omega
  · rcases h j z gj with ⟨b1, b2⟩ | ⟨b0, y2, b1, b2, b3⟩
    · have := l1_inj hs (by omega) (by omega) (a2.first b1)
      omega
    · have := l1_inj hs (by omega) (by omega) (a2.first b2)
      omega
end K5
set_option maxHeartbeats 1000000
namespace K5
open PySem PySem.Spec PyProof.Rows L2
theorem IsM.new {H : Hp} {m c l p : Addr} {N : Nat} (hM : IsM H m c l N) (hp : H p = none) : p ≠ l := by
  obtain ⟨cs, ls, k, h1, h2, h3, h4, _⟩ := hM
  exact (ne_of_none h4 hp).symm
theorem IsM.keep {H H' : Hp} {m c l p : Addr} {N : Nat} {xs : List V} (hM : IsM H m c l N) (x : Bar m l H H') (h : H p = some (.lst xs)) (hp : p ≠ l) : H' p = some (.lst xs) := by
  obtain ⟨cs, ls, k, h1, h2, h3, h4, _⟩ := hM
  exact x p _ (ne_of h h1 (by intro z; cases z)) hp h
theorem bar_none {m l : Addr} {H H' : Hp} {p : Addr} {N : Nat} {c : Addr} (hM : IsM H m c l N) (x : Bar m l H H') (h : H' p = none) (hm' : ∃ u, H' m = some u) (hl' : ∃ u, H' l = some u) : H p = none := by
  cases e : H p with
  | none => rfl
  | some u =>
    by_cases e1 : p = m
    · obtain ⟨v, hv⟩ := hm'
      rw [← e1, h] at hv
      cases hv
    · by_cases e2 : p = l
      · obtain ⟨v, hv⟩ := hl'
        rw [← e2, h] at hv
        cases hv
      · rw [x p u e1 e2 e] at h
        cases h
theorem IsM.back {H H' : Hp} {m c l p : Addr} {N N' : Nat} (hM : IsM H m c l N) (hM' : IsM H' m c l N') (x : Bar m l H H') (h : H' p = none) : H p = none := by
  obtain ⟨cs, ls, k, h1, h2, h3, h4, _⟩ := hM'
  exact bar_none hM x h ⟨_, h1⟩ ⟨_, h4⟩
theorem getD_P {P : Int → Prop} {fs : List Int} {k : Int} (h : ∀ x ∈ fs, P x) (h0 : 0 ≤ k) (h1 : k < fs.length) : P (fs.getD k.toNat 0) := by
  have e : fs[k.toNat]? = some (fs.getD k.toNat 0) := by
    rw [List.getD_eq_getElem?_getD, List.getElem?_eq_getElem (by omega)]
    rfl
  exact h _ (List.mem_of_getElem? e)
theorem let_at {k : Int} (h0 : 0 ≤ k) (h1 : k < 26) : atI letters.cps.toList k = some (97 + k.toNat) := by
  have e : ∀ j < 26, letters.cps.toList[j]? = some (97 + j) := by decide +kernel
  exact atI_int h0 (e k.toNat (by omega))
theorem vow_at {k : Int} (h0 : 0 ≤ k) (h1 : k < 5) : ∃ t, atI ("aeiou" : Str).cps.toList k = some t ∧ t ∈ vowY := by
  have e : ∀ j < 5, ∃ t ∈ vowY, ("aeiou" : Str).cps.toList[j]? = some t := by decide +kernel
  obtain ⟨t, h2, h3⟩ := e k.toNat (by omega)
  exact ⟨t, atI_int h0 h3, h2⟩
theorem Nm.snoc {j t : Nat} {z : Str} (h : Nm j z) (ht : t ∈ vowY) (hl : z.length ≤ 7) : Nm j (z ++ ⟨#[t]⟩) ∧ (z ++ (⟨#[t]⟩ : Str)).length = z.length + 1 := by
  have el : (z ++ (⟨#[t]⟩ : Str)).length = z.length + 1 := len_app _ _
  refine ⟨?_, el⟩
  obtain ⟨c2, tail, e, hj, h2, h3, h4, h5⟩ := h
  have ez : z.length = tail.length + 2 := by rw [len_cps, e]; rfl
  refine ⟨c2, tail ++ [t], by rw [cps_app, e]; rfl, hj, h2, h3, fun u hu => ?_, by rw [List.length_append]; show tail.length + 1 ≤ 6; omega⟩
  rcases List.mem_append.mp hu with v | v
  · exact h4 u v
  · rw [List.mem_singleton.mp v]; exact ht
theorem cutS_all {z : Str} (h : z.length ≤ 7) : cutS z none (some 7) = z := by
  have h' : z.cps.size ≤ 7 := h
  unfold cutS
  rw [show (7 : Int) = ((7 : Nat) : Int) from rfl, HT.sIx_nat, HT.sIx_none]
  have e : min 7 z.length = z.length := Nat.min_eq_right h
  rw [e, List.drop_zero, Nat.sub_zero, List.take_of_length_le (by rw [← len_cps]; exact Nat.le_refl _)]
theorem le12 : (strides.map V.int).length ≤ 1000000 := by decide
structure NamesOk (ns : List Str) : Prop where
  ok : ∀ z ∈ ns, NameOk z
  nq : ∀ z ∈ ns, z ≠ "qqq"
  nd : ns.Nodup
def spCalled : Sp := fun vs H Q _ => ∃ m c l N, ∃ n : Nat, vs = [.ref m, .int n] ∧ IsM H m c l N ∧ N ≤ 90000000 ∧ n ≤ 20 ∧
  ∀ p ns H', Bar m l H H' → H p = none → H' p = some (.lst (ns.map V.str)) → IsM H' m c l (N + 400) → ns.length = n → NamesOk ns → Q (.ref p) H'
def spPeople : Sp := fun vs H Q _ => ∃ m c l N, vs = [.ref m] ∧ IsM H m c l N ∧ N ≤ 90000000 ∧
  ∀ p ns H', Bar m l H H' → H p = none → H' p = some (.lst (ns.map V.str)) → IsM H' m c l (N + 400) → ns.length = 6 → NamesOk ns → Q (.ref p) H'
section
variable {P : Program} {w : World} {K : PySem.W.Frag} {mg : Str → Option Value} {base : Heap}
abbrev N__law_called : List Str := ["_law_m", "_law_many", "_law_letters", "_law_found", "_law_shift", "_law_stride", "_law_k", "_law_name", "_law_j"]
theorem sc__law_called : FnScope N__law_called ["_law_m", "_law_many"] (defScope (top 91)) := ⟨rfl, rfl, rfl, by decide +kernel, rfl, by decide +kernel, by decide +kernel⟩
theorem c__law_called (T : Txt w K mg) : Cl P w K mg base CX0 3 "_law_called" spCalled := by
  refine Cl.of T.d__law_called sc__law_called (fun _ _ _ _ _ _ us h => by obtain ⟨u0, u1, rfl⟩ := len2 h; rfl) (fun vs H Q E h => by obtain ⟨m, c, l, N, n, rfl, hM, hN, hn, q⟩ := h; rfl) fun f cdv A outer s H vs Q E hr h => ?_
  obtain ⟨m, c, l, N, n, rfl, hM, hN, hn, q⟩ := h
  refine ⟨_, PSs.nox ((pss_cons (ps_par (i := 2) (j := 3) rfl sc__law_called.nd rfl rfl (by decide) rfl rfl (pa_cons pe_str (pa_cons (pe_lstS pa_nil) pa_nil)) (by rfl))
  (pss_cons (ps_par (i := 4) (j := 5) rfl sc__law_called.nd rfl rfl (by decide) rfl rfl (pa_cons (pc (c__law_draw T) (hr.mono (by decide)) pass0 (pa_cons (pv 0) (pa_cons pe_int pa_nil))) (pa_cons (pe_ix ix_listS (pe_lstS (pa_cons pe_int (pa_cons pe_int (pa_cons pe_int (pa_cons pe_int (pa_cons pe_int (pa_cons pe_int (pa_cons pe_int (pa_cons pe_int (pa_cons pe_int (pa_cons pe_int (pa_cons pe_int (pa_cons pe_int pa_nil))))))))))))) (pc (c__law_draw T) (hr.mono (by decide)) pass0 (pa_cons (pv 0) (pa_cons pe_int pa_nil))) (fun _ _ => rfl)) pa_nil)) (by rfl))
  (pss_cons (ps_for PassesOwn.never rfl (pi_range1 rfl T.f_range (pa_cons (pv 1) pa_nil)) (pg_name (i := 6) sc__law_called.nd rfl (Or.inl rfl))
  (pss_cons (ps_set (i := 7) sc__law_called.nd rfl (Or.inl rfl) (pe_ix ix_str (pv 2) (pe_op op_mod (pe_op op_add (pv 4) (pe_op op_mul (pv 5) (pv 6))) pe_int) (fun _ _ => rfl)))
  (pss_cons (ps_set (i := 7) sc__law_called.nd rfl (Or.inl rfl) (pe_op op_add_str (pv 7) (pe_ix ix_str (pv 2) (pe_op op_mod (pe_op op_add (pv 4) (pe_op op_fdiv (pv 6) pe_int)) pe_int) (fun _ _ => rfl))))
  (pss_cons (ps_for PassesOwn.never rfl (pi_range1 rfl T.f_range (pa_cons (pe_ix ix_listS (pe_lstS (pa_cons pe_int (pa_cons pe_int (pa_cons pe_int (pa_cons (pc (c__law_draw T) (hr.mono (by decide)) pass0 (pa_cons (pv 0) (pa_cons pe_int pa_nil))) pa_nil))))) (pc (c__law_draw T) (hr.mono (by decide)) pass0 (pa_cons (pv 0) (pa_cons pe_int pa_nil))) (fun _ _ => rfl)) pa_nil)) (pg_name (i := 8) sc__law_called.nd rfl (Or.inl rfl))
  (pss_one (ps_set (i := 7) sc__law_called.nd rfl (Or.inl rfl) (pe_op op_add_str (pv 7) (pe_ix ix_str pe_str (pc (c__law_draw T) (hr.mono (by decide)) pass0 (pa_cons (pv 0) (pa_cons pe_int pa_nil))) (fun _ _ => rfl))))))
  (pss_cons (ps_if (PW.pt (pw_and (pt_cmpR op_eq (pe_op op_mod (pv 6) pe_int) pe_int (nomark _)) (pw_and1 (pt_cmpR op_eq (pc (c__law_draw T) (hr.mono (by decide)) pass0 (pa_cons (pv 0) (pa_cons pe_int pa_nil))) pe_int (nomark _))))) (pss_one (ps_set (i := 7) sc__law_called.nd rfl (Or.inl rfl) (pe_op op_add_str (pe_slice sl_str (pe_ix ix_listS (pv 3) (pe_un un_neg pe_int) (fun _ _ => rfl)) po_none (po_some pe_int)) pe_str))) pss_nil)
  (pss_one (ps_expr (pe_bm PySem.F.plainAttrs_list PySem.F.slot_list_append PySem.F.type_list_append mt_append (pv 3) (pa_cons (pv 7) pa_nil)))))))))
  (pss_one (ps_ret (pv 3))))))), ?_⟩
  refine ⟨le0, fun p H1 hp s1 h1 => ⟨_, _, rfl, ?_⟩⟩
  have hM1 := hM.mono s1
  have npl : p ≠ l := hM.new hp
  refine ⟨_, rfl, m, c, l, N, 26, rfl, hM1, by omega, by decide, by decide, fun sh H2 x2 hM2 sh0 sh1 => ?_⟩
  refine ⟨le12, fun p3 H3 hp3 s3 h3 => ⟨_, rfl, m, c, l, N + 1, 12, rfl, hM2.mono s3, by omega, by decide, by decide, fun si H4 x4 hM4 si0 si1 => ?_⟩⟩
  have h34 : H4 p3 = some (.lst (strides.map V.int)) := (hM2.mono s3).keep x4 h3 (hM2.new hp3)
  refine ⟨p3, _, si, _, rfl, rfl, h34, atI_in si0 (by show si < 12; exact si1), _, _, rfl, ?_⟩
  have hst : strides.getD si.toNat 0 ∈ strides := getD_P (P := fun x => x ∈ strides) (fun x h => h) si0 (by show si < 12; exact si1)
  generalize strides.getD si.toNat 0 = st at *
  have hstb : 1 ≤ st ∧ st ≤ 25 := by
    have e : ∀ x ∈ strides, 1 ≤ x ∧ x ≤ 25 := by decide
    exact e st hst
  have x14 : Bar m l H1 H4 := Bar.trans x2 (Bar.trans s3.bar x4)
  have hp4 : H4 p = some (.lst []) := hM1.keep x14 h1 npl
  have x04 : Bar m l H H4 := Bar.trans s1.bar x14
  refine ⟨_, rfl, n, rfl, by omega, by omega, ?_⟩
  refine forS (A := rI) (ds := (List.range ((n : Nat) : Int).toNat).map fun i : Nat => (0 : Int) + (i : Int)) src_range (Pv := fun i σ H5 => ∃ x6 x7 x8 ns, σ = [some (.ref m), some (.int n), some (.str letters), some (.ref p), some (.int sh), some (.int st), x6, x7, x8] ∧ Bar m l H H5 ∧ IsM H5 m c l (N + 2 + 8 * i) ∧ H5 p = some (.lst (ns.map V.str)) ∧ ns.length = i ∧ NsOk sh st ns) ?_ ?_ ?_ ?_
  · exact ⟨_, _, _, [], rfl, x04, hM4, hp4, rfl, NsOk.nil⟩
  · exact fun _ _ _ _ _ => True.intro
  · rintro i d x σ H5 H5' hd ⟨x6, x7, x8, ns, rfl, x5, hM5, hp5, hl5, ok5⟩ s5 r
    obtain rfl : x = .int d := r
    have hd2 : d = (i : Int) ∧ i < n := by
      rw [List.getElem?_map] at hd
      cases e : (List.range ((n : Nat) : Int).toNat)[i]? with
      | none => rw [e] at hd; cases hd
      | some j =>
        rw [e] at hd
        obtain ⟨e1, e2⟩ := List.getElem?_eq_some_iff.mp e
        rw [List.getElem_range] at e2
        rw [List.length_range] at e1
        have : (0 : Int) + (j : Int) = d := Option.some.inj hd
        omega
    obtain ⟨rfl, hin⟩ := hd2
    have x5' : Bar m l H H5' := Bar.trans x5 s5.bar
    have hM5' := hM5.mono s5
    have hp5' := s5 _ _ hp5
    have m0 := Int.emod_nonneg (sh + st * (i : Int)) (b := 26) (by decide)
    have m1 := Int.emod_lt_of_pos (sh + st * (i : Int)) (b := 26) (by decide)
    refine ⟨_, rfl, _, rfl, _, rfl, _, rfl, _, _, rfl, rfl, .inl ⟨by omega, by omega⟩, _, _, rfl, rfl, _, _, rfl, rfl, (by show (0 : Int) < 26; decide), letters, _, _, rfl, rfl, by decide, let_at m0 m1, ?_⟩
    have k0 := Int.emod_nonneg (sh + (i : Int) / 26) (b := 26) (by decide)
    have k1 := Int.emod_lt_of_pos (sh + (i : Int) / 26) (b := 26) (by decide)
    refine ⟨_, rfl, _, rfl, _, rfl, _, rfl, _, _, rfl, rfl, ⟨by decide, by decide⟩, _, _, rfl, rfl, _, _, rfl, rfl, (by show (0 : Int) < 26; decide), letters, _, _, rfl, rfl, by decide, let_at k0 k1, _, _, rfl, rfl, line_of (by show 1 + 1 ≤ 1000000; decide), ?_⟩
    have hz0 : Nm (l1 sh st i) ((⟨#[97 + ((sh + st * (i : Int)) % 26).toNat]⟩ : Str) ++ ⟨#[97 + ((sh + (i : Int) / 26) % 26).toNat]⟩) := by
      refine ⟨97 + ((sh + (i : Int) / 26) % 26).toNat, [], by rw [cps_app]; rfl, l1_lt sh st i, by omega, by omega, (fun t h => by cases h), by decide⟩
    have hz0l : ((⟨#[97 + ((sh + st * (i : Int)) % 26).toNat]⟩ : Str) ++ ⟨#[97 + ((sh + (i : Int) / 26) % 26).toNat]⟩).length = 2 := len_app _ _
    generalize (⟨#[97 + ((sh + st * (i : Int)) % 26).toNat]⟩ : Str) ++ ⟨#[97 + ((sh + (i : Int) / 26) % 26).toNat]⟩ = z0 at *
    refine ⟨_, rfl, m, c, l, N + 2 + 8 * i, 6, rfl, hM5', by omega, by decide, by decide, fun d6 H6 y6 hM6 d60 d61 => ⟨le4, fun p7 H7 hp7 s7 h7 => ⟨_, rfl, m, c, l, _, 4, rfl, hM6.mono s7, by omega, by decide, by decide, fun d4 H8 y8 hM8 d40 d41 => ?_⟩⟩⟩
    have h78 : H8 p7 = some (.lst (([0, 0, 1, d6] : List Int).map V.int)) := (hM6.mono s7).keep y8 h7 (hM6.new hp7)
    have hv : 0 ≤ ([0, 0, 1, d6] : List Int).getD d4.toNat 0 ∧ ([0, 0, 1, d6] : List Int).getD d4.toNat 0 ≤ 5 := getD_P (P := fun x => 0 ≤ x ∧ x ≤ 5) (allc (P := fun x : Int => 0 ≤ x ∧ x ≤ 5) ⟨by decide, by decide⟩ (allc (P := fun x : Int => 0 ≤ x ∧ x ≤ 5) ⟨by decide, by decide⟩ (allc (P := fun x : Int => 0 ≤ x ∧ x ≤ 5) ⟨by decide, by decide⟩ (all1 (P := fun x : Int => 0 ≤ x ∧ x ≤ 5) ⟨d60, by omega⟩)))) d40 d41
    refine ⟨p7, _, d4, _, rfl, rfl, h78, atI_in d40 d41, ?_⟩
    generalize ([0, 0, 1, d6] : List Int).getD d4.toNat 0 = v at *
    have x58 : Bar m l H5' H8 := Bar.trans y6 (Bar.trans s7.bar y8)
    have hp8 := hM5'.keep x58 hp5' npl
    have x08 := Bar.trans x5' x58
    refine ⟨v, rfl, by omega, by omega, ?_⟩
    refine forS (A := rI) (ds := (List.range v.toNat).map fun i : Nat => (0 : Int) + (i : Int)) src_range (Pv := fun j σ H9 => ∃ x8 z, σ = [some (.ref m), some (.int n), some (.str letters), some (.ref p), some (.int sh), some (.int st), some (.int i), some (.str z), x8] ∧ Bar m l H H9 ∧ IsM H9 m c l (N + 2 + 8 * i + 2 + j) ∧ H9 p = some (.lst (ns.map V.str)) ∧ Nm (l1 sh st i) z ∧ z.length = 2 + j) ?_ ?_ ?_ ?_
    · exact ⟨_, z0, rfl, x08, hM8, hp8, hz0, hz0l⟩
    · exact fun _ _ _ _ _ => True.intro
    · rintro j e x σ H9 H9' he ⟨x8, z, rfl, x9, hM9, hp9, nz, lz⟩ s9 r
      obtain rfl : x = .int e := r
      have hj : j < 5 := by
        have := lt_of_get he
        rw [List.length_map, List.length_range] at this
        omega
      refine ⟨_, rfl, _, rfl, m, c, l, _, 5, rfl, hM9.mono s9, by omega, by decide, by decide, fun d5 H10 y10 hM10 d50 d51 => ?_⟩
      obtain ⟨t, ht, htv⟩ := vow_at d50 d51
      have sn := nz.snoc htv (by omega)
      refine ⟨"aeiou", d5, t, rfl, rfl, by decide, ht, _, _, rfl, rfl, line_of (by show z.length + 1 ≤ 1000000; omega), ?_⟩
      exact ⟨_, _, rfl, Bar.trans x9 (Bar.trans s9.bar y10), hM10, (hM9.mono s9).keep y10 (s9 _ _ hp9) npl, sn.1, by rw [sn.2]; omega⟩
    · rintro σ H9 ⟨x8, z, rfl, x9, hM9, hp9, nz, lz⟩
      rw [List.length_map, List.length_range] at hM9 lz
      have step : ∀ (z' : Str) (H10 : Hp), Bar m l H H10 → IsM H10 m c l (N + 2 + 8 * (i + 1)) → H10 p = some (.lst (ns.map V.str)) → ((Nm (l1 sh st ns.length) z' ∧ z'.length ≤ 7) ∨ (ns.length % 2 = 1 ∧ ∃ y, ns[ns.length - 1]? = some y ∧ Nm (l1 sh st (ns.length - 1)) z' ∧ z'.length = y.length + 1)) →
          ∃ x6 x7 x8' ns', ([some (.ref m), some (.int n), some (.str letters), some (.ref p), some (.int sh), some (.int st), some (.int i), some (.str z'), x8] : L2.St) = [some (.ref m), some (.int n), some (.str letters), some (.ref p), some (.int sh), some (.int st), x6, x7, x8'] ∧ Bar m l H (upd H10 p (.lst (ns.map V.str ++ [.str z']))) ∧ IsM (upd H10 p (.lst (ns.map V.str ++ [.str z']))) m c l (N + 2 + 8 * (i + 1)) ∧
            (upd H10 p (.lst (ns.map V.str ++ [.str z']))) p = some (.lst (ns'.map V.str)) ∧ ns'.length = i + 1 ∧ NsOk sh st ns' := fun z' H10 x10 hM10 hp10 alt => by
        obtain ⟨cs, ls, kk, g1, g2, g3, g4, g5, g6, g7, g8, g9⟩ := hM10
        obtain ⟨_, _, _, f1, f2, _⟩ := hM
        have npm : m ≠ p := ne_of g1 hp10 (by intro z; cases z)
        have npc : c ≠ p := ne_of_none f2 hp
        refine ⟨_, _, _, ns ++ [z'], rfl, fun a u e1 e2 e3 => ?_, ⟨cs, ls, kk, by rw [upd_ne npm]; exact g1, by rw [upd_ne npc]; exact g2, g3, by rw [upd_ne (Ne.symm npl)]; exact g4, g5, g6, g7, g8, g9⟩, ?_, ?_, ok5.snoc alt⟩
        · rw [upd_ne (ne_of_none e3 hp)]
          exact x10 a u e1 e2 e3
        · rw [upd_same, List.map_append]
          rfl
        · rw [List.length_append, hl5]
          rfl
      refine ⟨_, rfl, _, _, rfl, rfl, (by show (0 : Int) < 2; decide), rfl, _, rfl, ite2 (fun odd => ?_) (fun _ => ?_)⟩
      · have odd : V.int ((i : Int) % 2) = V.int 1 := of_decide_eq_true odd
        injection odd with odd
        refine ⟨_, rfl, m, c, l, _, 5, rfl, hM9, by omega, by decide, by decide, fun d5 H10 y10 hM10 d50 d51 => ⟨rfl, _, rfl, ite2 (fun _ => ?_) (fun _ => ?_)⟩⟩
        · have hp10 := hM9.keep y10 hp9 npl
          have hi0 : 0 < ns.length := by omega
          have hy : ns[ns.length - 1]? = some (ns[ns.length - 1]'(by omega)) := List.getElem?_eq_getElem (by omega)
          generalize ns[ns.length - 1]'(by omega) = y at hy
          have eal : atI (ns.map V.str) (-1) = some (.str y) := by
            have e : ns = ns.dropLast ++ [y] := by
              have hne : ns ≠ [] := fun e => by rw [e] at hi0; simp at hi0
              have := List.dropLast_concat_getLast hne
              rw [List.getLast_eq_getElem] at this
              rw [List.getElem?_eq_getElem (by omega)] at hy
              injection hy with hy
              rw [← hy]
              exact this.symm
            rw [e, List.map_append]
            exact atI_last _ _
          have oky : Nm (l1 sh st (ns.length - 1)) y ∧ y.length ≤ 7 := by
            rcases ok5 _ _ hy with g | ⟨g, _⟩
            · exact g
            · omega
          have sn := oky.1.snoc (t := 121) (by decide) oky.2
          refine ⟨_, rfl, 1, rfl, p, _, -1, _, rfl, rfl, hp10, eal, 7, rfl, y, rfl, line_of (by omega), _, _, rfl, rfl, ?_, ?_⟩
          · rw [cutS_all oky.2]
            exact line_of (by show y.length + 1 ≤ 1000000; omega)
          · rw [cutS_all oky.2]
            have w := step (y ++ "y") H10 (Bar.trans x9 y10) (hM10.le (by omega)) hp10 (.inr ⟨by omega, y, hy, sn.1, sn.2⟩)
            exact ⟨_, rfl, .inl ⟨rfl, _, SqL.of hp10⟩, _, rfl, p, _, _, rfl, rfl, hp10, line_lt (by rw [List.length_map]; omega), w⟩
        · have hp10 := hM9.keep y10 hp9 npl
          have w := step z H10 (Bar.trans x9 y10) (hM10.le (by omega)) hp10 (.inl ⟨by rw [hl5]; exact nz, by omega⟩)
          exact ⟨_, rfl, .inl ⟨rfl, _, SqL.of hp10⟩, _, rfl, p, _, _, rfl, rfl, hp10, line_lt (by rw [List.length_map]; omega), w⟩
      · have w := step z H9 x9 (hM9.le (by omega)) hp9 (.inl ⟨by rw [hl5]; exact nz, by omega⟩)
        exact iteF ⟨_, rfl, .inl ⟨rfl, _, SqL.of hp9⟩, _, rfl, p, _, _, rfl, rfl, hp9, line_lt (by rw [List.length_map]; omega), w⟩
  · rintro σ H5 ⟨x6, x7, x8, ns, rfl, x5, hM5, hp5, hl5, ok5⟩
    rw [List.length_map, List.length_range] at hM5 hl5
    refine ⟨_, rfl, q p ns H5 x5 hp hp5 (hM5.le (by omega)) (by omega) ⟨fun z hz => ?_, fun z hz => ?_, ok5.nodup hst (by omega)⟩⟩
    · obtain ⟨j, hj⟩ := ok5.nm z hz
      exact hj.ok
    · obtain ⟨j, hj⟩ := ok5.nm z hz
      exact hj.ne_q
abbrev N__law_people : List Str := ["_law_m"]
theorem sc__law_people : FnScope N__law_people ["_law_m"] (defScope (top 92)) := ⟨rfl, rfl, rfl, by decide +kernel, rfl, by decide +kernel, by decide +kernel⟩
theorem c__law_people (T : Txt w K mg) : Cl P w K mg base CX0 4 "_law_people" spPeople := by
  refine Cl.of T.d__law_people sc__law_people (fun _ _ _ _ _ _ us h => by obtain ⟨u0, rfl⟩ := len1 h; rfl) (fun vs H Q E h => by obtain ⟨m, c, l, N, rfl, hM, hN, q⟩ := h; rfl) fun f cdv A outer s H vs Q E hr h => ?_
  obtain ⟨m, c, l, N, rfl, hM, hN, q⟩ := h
  refine ⟨_, PSs.nox ((pss_one (ps_ret (pc (c__law_called T) (hr.mono (by decide)) pass0 (pa_cons (pv 0) (pa_cons pe_int pa_nil)))))), ?_⟩
  exact ⟨_, rfl, m, c, l, N, 6, rfl, hM, hN, by decide, fun p ns H1 x1 hp h1 hM1 hl ok => q p ns H1 x1 hp h1 hM1 hl ok⟩
end
end K5
set_option maxHeartbeats 1000000
namespace K5
open PySem PySem.Spec PyProof.Rows L2
theorem app_bar {H H' : Hp} {m c l p : Addr} {N N' : Nat} {acc ys : List V} (hM : IsM H m c l N) (hp : H p = none) (x : Bar m l H H') (hM' : IsM H' m c l N') (hp' : H' p = some (.lst acc)) : Bar m l H (upd H' p (.lst ys)) ∧ IsM (upd H' p (.lst ys)) m c l N' := by
  obtain ⟨_, _, _, f1, f2, _, f4, _⟩ := hM
  obtain ⟨cs, ls, kk, g1, g2, g3, g4, g5⟩ := hM'
  have n1 : m ≠ p := ne_of_none f1 hp
  have n2 : c ≠ p := ne_of_none f2 hp
  have n3 : l ≠ p := ne_of_none f4 hp
  exact ⟨fun a u e1 e2 e3 => by rw [upd_ne (ne_of_none e3 hp)]; exact x a u e1 e2 e3, cs, ls, kk, by rw [upd_ne n1]; exact g1, by rw [upd_ne n2]; exact g2, g3, by rw [upd_ne n3]; exact g4, g5⟩
theorem pickI {fs : List Int} {k : Int} (h0 : 0 ≤ k) (h1 : k < fs.length) : ∃ x ∈ fs, atI (fs.map V.int) k = some (.int x) := by
  have e : fs[k.toNat]? = some (fs[k.toNat]'(by omega)) := List.getElem?_eq_getElem (by omega)
  exact ⟨_, List.mem_of_getElem? e, atI_int h0 (by rw [List.getElem?_map, e]; rfl)⟩
theorem pickS {fs : List Str} {k : Int} (h0 : 0 ≤ k) (h1 : k < fs.length) : ∃ x ∈ fs, atI (fs.map V.str) k = some (.str x) := by
  have e : fs[k.toNat]? = some (fs[k.toNat]'(by omega)) := List.getElem?_eq_getElem (by omega)
  exact ⟨_, List.mem_of_getElem? e, atI_int h0 (by rw [List.getElem?_map, e]; rfl)⟩
structure Ppl (H : Hp) (q l : Addr) (ppl : List Str) : Prop where
  at_ : H q = some (.lst (ppl.map V.str))
  len : ppl.length = 6
  ne : q ≠ l
  ok : NamesOk ppl
theorem Ppl.mono {H H' : Hp} {q l : Addr} {ppl : List Str} (s : Same H H') (h : Ppl H q l ppl) : Ppl H' q l ppl := ⟨s _ _ h.at_, h.len, h.ne, h.ok⟩
theorem Ppl.bar {H H' : Hp} {q m c l : Addr} {N : Nat} {ppl : List Str} (hM : IsM H m c l N) (x : Bar m l H H') (h : Ppl H q l ppl) : Ppl H' q l ppl := ⟨hM.keep x h.at_ h.ne, h.len, h.ne, h.ok⟩
def HsI (ppl : List Str) (hs : List Hold) (day : Int) : Prop := (∀ x ∈ hs, HoldOk x ∧ x.1 ∈ ppl ∧ x.2.2 < day) ∧ hs.Pairwise Bef
theorem HsI.ok {ppl : List Str} {hs : List Hold} {day : Int} (h : HsI ppl hs day) (hl : hs.length ≤ 12) : HsOk ppl hs := ⟨hl, fun x hx => (h.1 x hx).1, pw_apart h.2, fun x hx => (h.1 x hx).2.1⟩
def spHoldings : Sp := fun vs H Q _ => ∃ m c l N q ppl, ∃ most : Int, vs = [.ref m, .ref q, .int most] ∧ IsM H m c l N ∧ N ≤ 90000000 ∧ Ppl H q l ppl ∧ 0 ≤ most ∧ most ≤ 12 ∧
  ∀ v hs H', Bar m l H H' → IsM H' m c l (N + 200) → rTL rHold H' v hs → HsOk ppl hs → Q v H'
def spWorth : Sp := fun vs H Q _ => ∃ m c l N, vs = [.ref m] ∧ IsM H m c l N ∧ N ≤ 90000000 ∧ ∀ (i : Int) H', Bar m l H H' → IsM H' m c l (N + 4) → 0 ≤ i → i ≤ 9999 → Q (.int i) H'
def spSum : Sp := fun vs H Q _ => ∃ m c l N, vs = [.ref m] ∧ IsM H m c l N ∧ N ≤ 90000000 ∧ ∀ (i : Int) H', Bar m l H H' → IsM H' m c l (N + 5) → 0 ≤ i → i ≤ 1000000000 → Q (.int i) H'
def spNear : Sp := fun vs H Q _ => ∃ a b c d : Int, vs = [.int a, .int b, .int c, .int d] ∧ 0 ≤ d ∧ d ≤ 1000000000 ∧ 0 ≤ c ∧ c ≤ 1000000000 ∧ Q (.bl (decide (-d < a * d - b * c ∧ a * d - b * c < d))) H
def spWorths : Sp := fun vs H Q _ => ∃ v hs, vs = [v] ∧ rTL rHouse H v hs ∧ hs.length ≤ 1000 ∧ ∀ H', Same H H' → Q (.int ((hs.map (·.2.1)).sum)) H'
section
variable {P : Program} {w : World} {K : PySem.W.Frag} {mg : Str → Option Value} {base : Heap}
abbrev N__law_near : List Str := ["_law_part", "_law_whole", "_law_weight", "_law_in_all"]
theorem sc__law_near : FnScope N__law_near ["_law_part", "_law_whole", "_law_weight", "_law_in_all"] (defScope (top 103)) := ⟨rfl, rfl, rfl, by decide +kernel, rfl, by decide +kernel, by decide +kernel⟩
theorem c__law_near (T : Txt w K mg) : Cl P w K mg base CX0 1 "_law_near" spNear := by
  refine Cl.of T.d__law_near sc__law_near (fun _ _ _ _ _ _ us h => by obtain ⟨u0, u1, u2, u3, rfl⟩ := len4 h; rfl) (fun vs H Q E h => by obtain ⟨a, b, c, d, rfl, d0, d1, c0, c1, q⟩ := h; rfl) fun f cdv A outer s H vs Q E hr h => ?_
  obtain ⟨a, b, c, d, rfl, d0, d1, c0, c1, q⟩ := h
  refine ⟨_, PSs.nox ((pss_one (ps_ret (pe_chain op_lt op_lt (pe_un un_neg (pv 3)) (pe_op op_sub (pe_op op_mul (pv 0) (pv 3)) (pe_op op_mul (pv 1) (pv 2))) (pv 3))))), ?_⟩
  refine ⟨_, rfl, _, rfl, _, rfl, _, rfl, _, _, rfl, rfl, .inr ⟨by omega, by omega⟩, _, rfl, _, rfl, _, _, rfl, rfl, .inr ⟨by omega, by omega⟩, _, _, rfl, rfl, _, _, rfl, rfl, _, rfl, ite2 (fun z => ?_) (fun z => ?_)⟩
  · have z : -d < a * d - b * c := of_decide_eq_true z
    refine ⟨_, rfl, _, _, rfl, rfl, ?_⟩
    have e : decide (-d < a * d - b * c ∧ a * d - b * c < d) = decide (a * d - b * c < d) := by simp [z]
    rw [e] at q
    exact q
  · have e : decide (-d < a * d - b * c ∧ a * d - b * c < d) = false := decide_eq_false fun y => z (decide_eq_true y.1)
    rw [e] at q
    exact q
abbrev N__law_worths : List Str := ["_law_houses", "_law_house"]
theorem sc__law_worths : FnScope N__law_worths ["_law_houses"] (defScope (top 98)) := ⟨rfl, rfl, rfl, by decide +kernel, rfl, by decide +kernel, by decide +kernel⟩
theorem c__law_worths (T : Txt w K mg) : Cl P w K mg base CX0 1 "_law_worths" spWorths := by
  refine Cl.of T.d__law_worths sc__law_worths (fun _ _ _ _ _ _ us h => by obtain ⟨u0, rfl⟩ := len1 h; rfl) (fun vs H Q E h => by obtain ⟨v, hs, rfl, r, hl, q⟩ := h; rfl) fun f cdv A outer s H vs Q E hr h => ?_
  obtain ⟨v, hs, rfl, r, hl, q⟩ := h
  refine ⟨_, PSs.nox ((pss_one (ps_ret (pe_callB (cr_sumS rfl) (by rfl) T.f_sum boot_sum (pa_cons (pe_lcS (own := [("_law_house", 1)]) (by rfl) sc__law_worths.nd (pi_tup (pv 0)) (blkOk_by (own := [("_law_house", 1)]) (N := N__law_worths) (sc := defScope (top 98)) (by decide +kernel)) (fun _ _ _ _ _ => (pg_name (i := 1) sc__law_worths.nd rfl (Or.inl rfl))) (fun _ _ _ _ _ => pts_nil) (fun _ _ _ _ _ => (pe_ix ix_tupS (pv 1) pe_int (fun _ _ => rfl)))) pa_nil))))), ?_⟩
  obtain ⟨a, us, rfl, ha, pu⟩ := r
  have hul : us.length = hs.length := pr_len pu
  refine ⟨_, rfl, a, rfl, ⟨us, SqT.of ha⟩, fun D hD => ?_⟩
  refine lcM (A := rHouse) (B := rI) (ds := hs) src_tup (fun h => h.2.1) hD (by omega) (fun H2 s2 => okT_mono s2.tk ⟨us, ha, pu⟩) (fun i d x H2 hd s2 r => ?_) fun acc H2 s2 hD2 pa => ?_
  · obtain ⟨a1, y1, y2, y3, rfl, h1, rfl, rfl, _⟩ := r
    exact ⟨rfl, _, rfl, a1, _, 1, _, rfl, rfl, h1, rfl, Same.refl _, rfl⟩
  exact ⟨D, acc, _, rfl, hD2, pa, q _ s2⟩
abbrev N__law_worth : List Str := ["_law_m"]
theorem sc__law_worth : FnScope N__law_worth ["_law_m"] (defScope (top 94)) := ⟨rfl, rfl, rfl, by decide +kernel, rfl, by decide +kernel, by decide +kernel⟩
theorem c__law_worth (T : Txt w K mg) : Cl P w K mg base CX0 3 "_law_worth" spWorth := by
  refine Cl.of T.d__law_worth sc__law_worth (fun _ _ _ _ _ _ us h => by obtain ⟨u0, rfl⟩ := len1 h; rfl) (fun vs H Q E h => by obtain ⟨m, c, l, N, rfl, hM, hN, q⟩ := h; rfl) fun f cdv A outer s H vs Q E hr h => ?_
  obtain ⟨m, c, l, N, rfl, hM, hN, q⟩ := h
  refine ⟨_, PSs.nox ((pss_one (ps_ret (pe_ix ix_listS (pe_lstS (pa_cons pe_int (pa_cons pe_int (pa_cons (pe_op op_add pe_int (pc (c__law_draw T) (hr.mono (by decide)) pass0 (pa_cons (pv 0) (pa_cons pe_int pa_nil)))) (pa_cons (pc (c__law_draw T) (hr.mono (by decide)) pass0 (pa_cons (pv 0) (pa_cons pe_int pa_nil))) (pa_cons (pc (c__law_draw T) (hr.mono (by decide)) pass0 (pa_cons (pv 0) (pa_cons pe_int pa_nil))) (pa_cons pe_int (pa_cons pe_int pa_nil)))))))) (pc (c__law_draw T) (hr.mono (by decide)) pass0 (pa_cons (pv 0) (pa_cons pe_int pa_nil))) (fun _ _ => rfl))))), ?_⟩
  refine ⟨_, rfl, m, c, l, N, 9, rfl, hM, by omega, by decide, by decide, fun d1 H1 x1 hM1 a1 b1 => ⟨_, _, rfl, rfl, ?_⟩⟩
  refine ⟨_, rfl, m, c, l, _, 100, rfl, hM1, by omega, by decide, by decide, fun d2 H2 x2 hM2 a2 b2 => ?_⟩
  refine ⟨_, rfl, m, c, l, _, 10000, rfl, hM2, by omega, by decide, by decide, fun d3 H3 x3 hM3 a3 b3 => ⟨by show 7 ≤ 1000000; decide, fun p H4 hp s4 h4 => ?_⟩⟩
  refine ⟨_, rfl, m, c, l, _, 7, rfl, hM3.mono s4, by omega, by decide, by decide, fun d5 H5 x5 hM5 a5 b5 => ?_⟩
  have h5 : H5 p = some (.lst (([0, 1, 1 + d1, d2, d3, 9999, 5] : List Int).map V.int)) := (hM3.mono s4).keep x5 h4 (hM3.new hp)
  obtain ⟨x, hx, ex⟩ := pickI (fs := [0, 1, 1 + d1, d2, d3, 9999, 5]) a5 b5
  have hb : 0 ≤ x ∧ x ≤ 9999 := by
    simp only [List.mem_cons, List.not_mem_nil, or_false] at hx
    omega
  exact ⟨p, _, d5, _, rfl, rfl, h5, ex, q x H5 (Bar.trans x1 (Bar.trans x2 (Bar.trans x3 (Bar.trans s4.bar x5)))) (hM5.le (by omega)) hb.1 hb.2⟩
abbrev N__law_sum : List Str := ["_law_m"]
theorem sc__law_sum : FnScope N__law_sum ["_law_m"] (defScope (top 96)) := ⟨rfl, rfl, rfl, by decide +kernel, rfl, by decide +kernel, by decide +kernel⟩
theorem c__law_sum (T : Txt w K mg) : Cl P w K mg base CX0 3 "_law_sum" spSum := by
  refine Cl.of T.d__law_sum sc__law_sum (fun _ _ _ _ _ _ us h => by obtain ⟨u0, rfl⟩ := len1 h; rfl) (fun vs H Q E h => by obtain ⟨m, c, l, N, rfl, hM, hN, q⟩ := h; rfl) fun f cdv A outer s H vs Q E hr h => ?_
  obtain ⟨m, c, l, N, rfl, hM, hN, q⟩ := h
  refine ⟨_, PSs.nox ((pss_one (ps_ret (pe_ix ix_listS (pe_lstS (pa_cons pe_int (pa_cons (pc (c__law_draw T) (hr.mono (by decide)) pass0 (pa_cons (pv 0) (pa_cons pe_int pa_nil))) (pa_cons (pc (c__law_draw T) (hr.mono (by decide)) pass0 (pa_cons (pv 0) (pa_cons pe_int pa_nil))) (pa_cons (pc (c__law_draw T) (hr.mono (by decide)) pass0 (pa_cons (pv 0) (pa_cons (pe_op op_pow pe_int pe_int) pa_nil))) (pa_cons (pe_op op_sub (pe_op op_pow pe_int pe_int) (pc (c__law_draw T) (hr.mono (by decide)) pass0 (pa_cons (pv 0) (pa_cons pe_int pa_nil)))) pa_nil)))))) (pc (c__law_draw T) (hr.mono (by decide)) pass0 (pa_cons (pv 0) (pa_cons pe_int pa_nil))) (fun _ _ => rfl))))), ?_⟩
  refine ⟨_, rfl, m, c, l, N, 10, rfl, hM, by omega, by decide, by decide, fun d1 H1 x1 hM1 a1 b1 => ?_⟩
  refine ⟨_, rfl, m, c, l, _, 1000, rfl, hM1, by omega, by decide, by decide, fun d2 H2 x2 hM2 a2 b2 => ?_⟩
  refine ⟨_, rfl, _, _, rfl, rfl, ⟨by decide, by decide, by decide⟩, m, c, l, _, _, rfl, hM2, by omega, by decide, by decide, fun d3 H3 x3 hM3 a3 b3 => ?_⟩
  have b3 : d3 < 1000000 := b3
  refine ⟨_, _, rfl, rfl, ⟨by decide, by decide, by decide⟩, _, rfl, m, c, l, _, 5, rfl, hM3, by omega, by decide, by decide, fun d4 H4 x4 hM4 a4 b4 => ⟨_, _, rfl, rfl, le5, fun p H5 hp s5 h5 => ?_⟩⟩
  refine ⟨_, rfl, m, c, l, _, 5, rfl, hM4.mono s5, by omega, by decide, by decide, fun d6 H6 x6 hM6 a6 b6 => ?_⟩
  have h6 : H6 p = some (.lst (([0, d1, d2, d3, 1000000000 - d4] : List Int).map V.int)) := (hM4.mono s5).keep x6 h5 (hM4.new hp)
  obtain ⟨x, hx, ex⟩ := pickI (fs := [0, d1, d2, d3, 1000000000 - d4]) a6 b6
  have hb : 0 ≤ x ∧ x ≤ 1000000000 := by
    simp only [List.mem_cons, List.not_mem_nil, or_false] at hx
    omega
  exact ⟨p, _, d6, _, rfl, rfl, h6, ex, q x H6 (Bar.trans x1 (Bar.trans x2 (Bar.trans x3 (Bar.trans x4 (Bar.trans s5.bar x6))))) (hM6.le (by omega)) hb.1 hb.2⟩
abbrev N__law_holdings : List Str := ["_law_m", "_law_people_here", "_law_most", "_law_found", "_law_day", "_law_k", "_law_last"]
theorem sc__law_holdings : FnScope N__law_holdings ["_law_m", "_law_people_here", "_law_most"] (defScope (top 93)) := ⟨rfl, rfl, rfl, by decide +kernel, rfl, by decide +kernel, by decide +kernel⟩
theorem c__law_holdings (T : Txt w K mg) : Cl P w K mg base CX0 3 "_law_holdings" spHoldings := by
  refine Cl.of T.d__law_holdings sc__law_holdings (fun _ _ _ _ _ _ us h => by obtain ⟨u0, u1, u2, rfl⟩ := len3 h; rfl) (fun vs H Q E h => by obtain ⟨m, c, l, N, qq, ppl, most, rfl, hM, hN, hq, o0, o1, q⟩ := h; rfl) fun f cdv A outer s H vs Q E hr h => ?_
  obtain ⟨m, c, l, N, qq, ppl, most, rfl, hM, hN, hq, o0, o1, q⟩ := h
  refine ⟨_, PSs.nox ((pss_cons (ps_par (i := 3) (j := 4) rfl sc__law_holdings.nd rfl rfl (by decide) rfl rfl (pa_cons (pe_lstS pa_nil) (pa_cons (pe_op op_add pe_int (pe_ix ix_listS (pe_lstS (pa_cons pe_int (pa_cons pe_int (pa_cons (pc (c__law_draw T) (hr.mono (by decide)) pass0 (pa_cons (pv 0) (pa_cons pe_int pa_nil))) pa_nil)))) (pc (c__law_draw T) (hr.mono (by decide)) pass0 (pa_cons (pv 0) (pa_cons pe_int pa_nil))) (fun _ _ => rfl))) pa_nil)) (by rfl))
  (pss_cons (ps_for PassesOwn.never rfl (pi_range1 rfl T.f_range (pa_cons (pc (c__law_draw T) (hr.mono (by decide)) pass0 (pa_cons (pv 0) (pa_cons (pe_op op_add (pv 2) pe_int) pa_nil))) pa_nil)) (pg_name (i := 5) sc__law_holdings.nd rfl (Or.inl rfl))
  (pss_one (ps_if (pt_cmpR op_le (pv 4) pe_int (nomark _)) (pss_cons (ps_set (i := 6) sc__law_holdings.nd rfl (Or.inl rfl) (pe_callB (call_min2 rfl) (by rfl) T.f_min boot_min (pa_cons pe_int (pa_cons (pe_op op_add (pv 4) (pe_ix ix_listS (pe_lstS (pa_cons (pc (c__law_draw T) (hr.mono (by decide)) pass0 (pa_cons (pv 0) (pa_cons pe_int pa_nil))) (pa_cons (pc (c__law_draw T) (hr.mono (by decide)) pass0 (pa_cons (pv 0) (pa_cons pe_int pa_nil))) (pa_cons (pc (c__law_draw T) (hr.mono (by decide)) pass0 (pa_cons (pv 0) (pa_cons pe_int pa_nil))) pa_nil)))) (pc (c__law_draw T) (hr.mono (by decide)) pass0 (pa_cons (pv 0) (pa_cons pe_int pa_nil))) (fun _ _ => rfl))) pa_nil))))
  (pss_cons (ps_expr (pe_bm PySem.F.plainAttrs_list PySem.F.slot_list_append PySem.F.type_list_append mt_append (pv 3) (pa_cons (pe_tupS (pa_cons (pe_ix ix_listS (pv 1) (pc (c__law_draw T) (hr.mono (by decide)) pass0 (pa_cons (pv 0) (pa_cons pe_int pa_nil))) (fun _ _ => rfl)) (pa_cons (pv 4) (pa_cons (pv 6) pa_nil)))) pa_nil)))
  (pss_one (ps_set (i := 4) sc__law_holdings.nd rfl (Or.inl rfl) (pe_op op_add (pe_op op_add (pv 6) pe_int) (pe_ix ix_listS (pe_lstS (pa_cons pe_int (pa_cons pe_int (pa_cons (pc (c__law_draw T) (hr.mono (by decide)) pass0 (pa_cons (pv 0) (pa_cons pe_int pa_nil))) pa_nil)))) (pc (c__law_draw T) (hr.mono (by decide)) pass0 (pa_cons (pv 0) (pa_cons pe_int pa_nil))) (fun _ _ => rfl))))))) pss_nil)))
  (pss_one (ps_ret (pe_callTy call_tupleS (by rfl) T.f_tuple boot_tuple (pa_cons (pv 3) pa_nil))))))), ?_⟩
  refine ⟨le0, fun p H1 hp s1 h1 => ?_⟩
  have npl := hM.new hp
  have hM1 := hM.mono s1
  refine ⟨_, rfl, m, c, l, N, 60, rfl, hM1, by omega, by decide, by decide, fun d1 H2 x2 hM2 a1 b1 => ⟨le3, fun p3 H3 hp3 s3 h3 => ⟨_, rfl, m, c, l, _, 3, rfl, hM2.mono s3, by omega, by decide, by decide, fun d2 H4 x4 hM4 a2 b2 => ?_⟩⟩⟩
  have h34 : H4 p3 = some (.lst (([0, 0, d1] : List Int).map V.int)) := (hM2.mono s3).keep x4 h3 (hM2.new hp3)
  obtain ⟨e0, he0, ee0⟩ := pickI (fs := [0, 0, d1]) a2 b2
  have hb0 : 0 ≤ e0 := by
    simp only [List.mem_cons, List.not_mem_nil, or_false] at he0
    omega
  refine ⟨p3, _, d2, _, rfl, rfl, h34, ee0, _, _, rfl, rfl, _, _, rfl, ?_⟩
  have x14 : Bar m l H1 H4 := Bar.trans x2 (Bar.trans s3.bar x4)
  have x04 : Bar m l H H4 := Bar.trans s1.bar x14
  have hp4 := hM1.keep x14 h1 npl
  refine ⟨_, rfl, _, rfl, _, _, rfl, rfl, m, c, l, _, most + 1, rfl, hM4, by omega, by omega, by omega, fun cnt H5 x5 hM5 c0 c1 => ⟨cnt, rfl, by omega, by omega, ?_⟩⟩
  refine forS (A := rI) (ds := (List.range cnt.toNat).map fun i : Nat => (0 : Int) + (i : Int)) src_range (Pv := fun i σ H6 => ∃ day x5 x6 acc hs, σ = [some (.ref m), some (.ref qq), some (.int most), some (.ref p), some (.int day), x5, x6] ∧ Bar m l H H6 ∧ IsM H6 m c l (N + 3 + 8 * i) ∧ H6 p = some (.lst acc) ∧ Paired (rHold H6) acc hs ∧ HsI ppl hs day ∧ hs.length ≤ i ∧ 1 ≤ day) ?_ ?_ ?_ ?_
  · exact ⟨_, _, _, [], [], rfl, Bar.trans x04 x5, hM5, hM4.keep x5 hp4 npl, .nil, ⟨(fun x h => by cases h), List.Pairwise.nil⟩, Nat.le_refl _, by omega⟩
  · exact fun _ _ _ _ _ => True.intro
  · rintro i dd x σ H6 H6' hd ⟨day, x5', x6', acc, hs, rfl, y6, hM6, hp6, pa, hI, hl, hday⟩ s6 r
    obtain rfl : x = .int dd := r
    have hi : i < 12 := by
      have := lt_of_get hd
      rw [List.length_map, List.length_range] at this
      omega
    have hM6' := hM6.mono s6
    have y6' : Bar m l H H6' := Bar.trans y6 s6.bar
    have hacc : acc.length ≤ i := by rw [pr_len pa]; exact hl
    refine ⟨_, rfl, _, _, rfl, rfl, _, rfl, ite2 (fun c2 => ?_) (fun _ => ⟨_, _, _, acc, hs, rfl, y6', hM6'.le (by omega), s6 _ _ hp6, mnL s6.tk pa, hI, Nat.le_succ_of_le hl, hday⟩)⟩
    have c2 : day ≤ 360 := of_decide_eq_true c2
    refine ⟨_, rfl, _, rfl, m, c, l, _, 360, rfl, hM6', by omega, by decide, by decide, fun f1 H7 x7 hM7 f10 f11 => ?_⟩
    refine ⟨_, rfl, m, c, l, _, 90, rfl, hM7, by omega, by decide, by decide, fun f2 H8 x8 hM8 f20 f21 => ?_⟩
    refine ⟨_, rfl, m, c, l, _, 8, rfl, hM8, by omega, by decide, by decide, fun f3 H9 x9 hM9 f30 f31 => ⟨le3, fun p10 H10 hp10 s10 h10 => ?_⟩⟩
    refine ⟨_, rfl, m, c, l, _, 3, rfl, hM9.mono s10, by omega, by decide, by decide, fun f4 H11 x11 hM11 f40 f41 => ?_⟩
    have h11 : H11 p10 = some (.lst (([f1, f2, f3] : List Int).map V.int)) := (hM9.mono s10).keep x11 h10 (hM9.new hp10)
    obtain ⟨e, he, ee⟩ := pickI (fs := [f1, f2, f3]) f40 f41
    have he0 : 0 ≤ e := by
      simp only [List.mem_cons, List.not_mem_nil, or_false] at he
      omega
    refine ⟨p10, _, f4, _, rfl, rfl, h11, ee, _, _, rfl, rfl, _, _, rfl, ?_⟩
    have hlast : day ≤ (if day + e < 360 then day + e else 360) ∧ (if day + e < 360 then day + e else 360) ≤ 360 := by split <;> omega
    generalize (if day + e < 360 then day + e else 360) = last at *
    have x611 : Bar m l H6' H11 := Bar.trans x7 (Bar.trans x8 (Bar.trans x9 (Bar.trans s10.bar x11)))
    have hp11 := hM6'.keep x611 (s6 _ _ hp6) npl
    have y11 := Bar.trans y6' x611
    have hq11 := (hq.bar hM y11)
    refine ⟨_, rfl, .inl ⟨rfl, _, SqL.of hp11⟩, _, rfl, _, rfl, m, c, l, _, 6, rfl, hM11, by omega, by decide, by decide, fun f5 H12 x12 hM12 f50 f51 => ?_⟩
    obtain ⟨nm, hnm, enm⟩ := pickS (fs := ppl) f50 (by rw [hq.len]; exact f51)
    have hq12 := hq11.bar hM11 x12
    refine ⟨qq, _, f5, _, rfl, rfl, hq12.at_, enm, _, rfl, _, rfl, le3, fun p13 H13 hp13 s13 h13 => ?_⟩
    have y13 := Bar.trans y11 (Bar.trans x12 s13.bar)
    have hM13 := hM12.mono s13
    have hp13' := s13 _ _ (hM11.keep x12 hp11 npl)
    refine ⟨p, acc, _, rfl, rfl, hp13', line_lt (by omega), ?_⟩
    have tk13 : Tk H6 H13 := s6.tk.trans ((hM6'.tk x611).trans ((hM11.tk x12).trans s13.tk))
    have tkU : Tk H13 (upd H13 p (.lst (acc ++ [.ref p13]))) := Tk.upd hp13' fun _ z => by cases z
    obtain ⟨yU, hMU⟩ := app_bar (ys := acc ++ [.ref p13]) hM hp y13 hM13 hp13'
    have paU : Paired (rHold (upd H13 p (.lst (acc ++ [.ref p13])))) (acc ++ [.ref p13]) (hs ++ [(nm, day, last)]) := pr_snoc (mnL (tk13.trans tkU) pa) (Mon.go (A := rHold) tkU ⟨p13, _, _, _, rfl, h13, rfl, rfl, rfl⟩)
    have hpU : upd H13 p (.lst (acc ++ [.ref p13])) p = some (.lst (acc ++ [.ref p13])) := upd_same
    generalize upd H13 p (.lst (acc ++ [.ref p13])) = H14 at *
    refine ⟨_, rfl, _, _, rfl, rfl, _, rfl, m, c, l, _, 40, rfl, hMU, by omega, by decide, by decide, fun g1 H15 x15 hM15 g10 g11 => ⟨le3, fun p16 H16 hp16 s16 h16 => ⟨_, rfl, m, c, l, _, 3, rfl, hM15.mono s16, by omega, by decide, by decide, fun g2 H17 x17 hM17 g20 g21 => ?_⟩⟩⟩
    have h17 : H17 p16 = some (.lst (([0, 0, g1] : List Int).map V.int)) := (hM15.mono s16).keep x17 h16 (hM15.new hp16)
    obtain ⟨u, hu, eu⟩ := pickI (fs := [0, 0, g1]) g20 g21
    have hu0 : 0 ≤ u := by
      simp only [List.mem_cons, List.not_mem_nil, or_false] at hu
      omega
    have x1417 : Bar m l H14 H17 := Bar.trans x15 (Bar.trans s16.bar x17)
    refine ⟨p16, _, g2, _, rfl, rfl, h17, eu, _, _, rfl, rfl, _, _, _, acc ++ [.ref p13], hs ++ [(nm, day, last)], rfl, Bar.trans yU x1417, hM17.le (by omega), hMU.keep x1417 hpU npl, mnL (hMU.tk x1417) paU, ⟨fun x hx => ?_, ?_⟩, by rw [List.length_append]; exact Nat.succ_le_succ hl, by omega⟩
    · rcases List.mem_append.mp hx with z | z
      · have h1 := hI.1 x z
        exact ⟨h1.1, h1.2.1, by omega⟩
      · rw [List.mem_singleton.mp z]
        exact ⟨⟨hq.ok.ok nm hnm, hday, hlast.1, hlast.2⟩, hnm, by show last < last + 1 + u; omega⟩
    · rw [List.pairwise_append]
      exact ⟨hI.2, List.pairwise_singleton _ _, fun x hx y hy => by rw [List.mem_singleton.mp hy]; exact (hI.1 x hx).2.2⟩
  · rintro σ H6 ⟨day, x5', x6', acc, hs, rfl, y6, hM6, hp6, pa, hI, hl, hday⟩
    rw [List.length_map, List.length_range] at hM6 hl
    refine ⟨_, rfl, p, acc, rfl, hp6, fun p7 H7 hp7 s7 h7 => q _ hs H7 (Bar.trans y6 s7.bar) ((hM6.mono s7).le (by omega)) ⟨p7, acc, rfl, h7, mnL s7.tk pa⟩ (hI.ok (by omega))⟩
end
end K5
set_option maxHeartbeats 1000000
namespace K5
open PySem PySem.Spec PyProof.Rows L2
/-- a comprehension by an invariant of the heap, for turns that write -/
theorem lcP {α : Type} {J : It} {Ok : Hp → Prop} {A : Rel α} {ds : List α} (S : Src J Ok A ds) {g : TG} {tt : TT} {te : TE} {vs : List Nat} {σ : L2.St} {H1 : Hp} {D : Addr} {Qd : Hp → Prop} (Pv : Nat → List V → Hp → Prop)
    (hn : ds.length ≤ 1000000) (h0 : Pv 0 [] (upd H1 D (.lst []))) (hD : ∀ i acc H, Pv i acc H → H D = some (.lst acc) ∧ acc.length ≤ i) (hok : ∀ i acc H, Pv i acc H → Ok H)
    (turn : ∀ (i : Nat) (d : α) (x : V) (H H' : Hp) (acc : List V), ds[i]? = some d → Pv i acc H → Same H H' → A H' x d → g x (wipe σ vs) H' fun σ2 H2 => wipe σ2 vs = wipe σ vs ∧ tt σ2 H2 fun b H3 => if b = true then te σ2 H3 fun y H4 => H4 D = some (.lst acc) ∧ Pv (i + 1) (acc ++ [y]) (upd H4 D (.lst (acc ++ [y]))) else Pv (i + 1) acc H3)
    (done : ∀ acc H, Pv ds.length acc H → Qd H) :
    ∃ W : Nat → Nat → Hp → Prop, (∃ m, W 0 m (upd H1 D (.lst []))) ∧ ∀ i m H, W i m H →
      (J.stop i H ∧ Qd H) ∨ (J.go i H ∧ ∃ Nx : Hp → Prop, (∀ H', Nx H' → ∃ m', m' < m ∧ W (i + 1) m' H') ∧ ∀ x H', J.yld i H x H' → (clG g) x (wipe σ vs) H' fun σ2 H2 => wipe σ2 vs = wipe σ vs ∧ (clT tt) σ2 H2 fun b H3 =>
        if b = true then (clE te) σ2 H3 fun y H4 => ∃ acc, H4 D = some (.lst acc) ∧ acc.length < sizeLine ∧ Nx (upd H4 D (.lst (acc ++ [y]))) else Nx H3) := by
  refine ⟨fun i m H => m = ds.length - i ∧ i ≤ ds.length ∧ ∃ acc, Pv i acc H, ⟨ds.length, by simp, Nat.zero_le _, [], h0⟩, ?_⟩
  rintro i m H ⟨rfl, hi, acc, p⟩
  by_cases hlt : i < ds.length
  · obtain ⟨d, hdd⟩ : ∃ d, ds[i]? = some d := ⟨_, List.getElem?_eq_getElem hlt⟩
    refine .inr ⟨S.go i H hlt (hok i acc H p), fun H' => ∃ acc, Pv (i + 1) acc H', fun H' p' => ⟨ds.length - (i + 1), by omega, rfl, hlt, p'⟩, fun x H' y => ?_⟩
    obtain ⟨s1, r⟩ := S.yld i H x H' d hdd (hok i acc H p) y
    refine ⟨_, turn i d x H H' acc hdd p s1 r, fun σ2 H2 q => ⟨q.1, _, q.2, fun b H3 q3 => ?_⟩⟩
    cases b with
    | true =>
      refine iteT ⟨_, (show te σ2 H3 _ from q3), fun y H4 q4 => ⟨acc, q4.1, line_lt ?_, acc ++ [y], q4.2⟩⟩
      have := (hD i acc H p).2
      omega
    | false => exact iteF ⟨acc, q3⟩
  · have e : i = ds.length := by omega
    subst e
    exact .inl ⟨S.stop H (hok _ _ _ p), done acc H p⟩
def spExcused2 : Sp := fun vs H Q _ => ∃ m c l N q ppl, vs = [.ref m, .ref q] ∧ IsM H m c l N ∧ N ≤ 90000000 ∧ Ppl H q l ppl ∧ ∀ v ex H', Bar m l H H' → IsM H' m c l (N + 10) → rTL rS H' v ex → ExcOk ex → Q v H'
theorem qqq_ok : NameOk "qqq" := by
  refine ⟨by decide, by decide, ?_, ?_⟩
  · have : inV (.str "qqq") ((["parish", "house", "held"] : List Str).map V.str) = false := by
      rw [inV_strs]
      decide +kernel
    exact this
  · intro c hc
    have e : ∀ c ∈ ("qqq" : Str).cps.toList, c ∈ letters.cps.toList := by decide +kernel
    exact e c hc
theorem ppl_q {ppl : List Str} (ok : NamesOk ppl) : (ppl ++ (["qqq"] : List Str)).Nodup ∧ ∀ z ∈ ppl ++ (["qqq"] : List Str), NameOk z := by
  refine ⟨?_, fun z hz => ?_⟩
  · rw [List.nodup_append]
    exact ⟨ok.nd, by simp, fun a ha b hb e => ok.nq a ha (by rw [e]; exact List.mem_singleton.mp hb)⟩
  · rcases List.mem_append.mp hz with y | y
    · exact ok.ok z y
    · rw [List.mem_singleton.mp y]; exact qqq_ok
def nsF (ns : List Str) (i : Nat) : Str := ns.getD i ""
theorem nsF_at {ns : List Str} {i : Nat} (h : i < ns.length) : ns[i]? = some (nsF ns i) := by
  unfold nsF
  rw [List.getD_eq_getElem?_getD, List.getElem?_eq_getElem h]
  rfl
theorem nsF_mem {ns : List Str} {i : Nat} (h : i < ns.length) : nsF ns i ∈ ns := List.mem_of_getElem? (nsF_at h)
theorem nsF_nodup {ns : List Str} (nd : ns.Nodup) : ∀ {idx : List Nat}, idx.Pairwise (· < ·) → (∀ i ∈ idx, i < ns.length) → (idx.map (nsF ns)).Nodup
  | [], _, _ => List.nodup_nil
  | i :: idx, h, hb => by
    rw [List.map_cons, List.nodup_cons]
    have hp := List.pairwise_cons.mp h
    refine ⟨fun hm => ?_, nsF_nodup nd hp.2 fun j hj => hb j (List.mem_cons_of_mem _ hj)⟩
    obtain ⟨j, hj, e⟩ := List.mem_map.mp hm
    have hi := hb i List.mem_cons_self
    have hj2 := hb j (List.mem_cons_of_mem _ hj)
    have hij := hp.1 j hj
    have e1 := nsF_at hi
    have e2 := nsF_at hj2
    rw [List.getElem?_eq_getElem hi] at e1
    rw [List.getElem?_eq_getElem hj2, e] at e2
    injection e1 with e1
    injection e2 with e2
    exact (List.pairwise_iff_getElem.mp nd i j hi hj2 hij) (e1.trans e2.symm)
theorem atI_nsF {ns : List Str} {i : Nat} {k : Int} (e : k = (i : Int)) (h : i < ns.length) : atI (ns.map V.str) k = some (.str (nsF ns i)) := by
  rw [e]
  exact atI_nat (by rw [List.getElem?_map, nsF_at h]; rfl)
def HasW (own : List House) : Prop := ∃ h ∈ own, 0 < h.2.1
def spCounty2 : Sp := fun vs H Q _ => ∃ m c l N q ppl, vs = [.ref m, .ref q, .int 3, .int 4] ∧ IsM H m c l N ∧ N ≤ 80000000 ∧ Ppl H q l ppl ∧
  ∀ v cty H', Bar m l H H' → IsM H' m c l (N + 4000) → rCounty H' v cty → CGood ppl cty → cty.length ≤ 3 → Q v H'
section
variable {P : Program} {w : World} {K : PySem.W.Frag} {mg : Str → Option Value} {base : Heap}
abbrev N__law_excused : List Str := ["_law_m", "_law_people_here", "_law_name"]
theorem sc__law_excused : FnScope N__law_excused ["_law_m", "_law_people_here"] (defScope (top 97)) := ⟨rfl, rfl, rfl, by decide +kernel, rfl, by decide +kernel, by decide +kernel⟩
theorem c__law_excused (T : Txt w K mg) : Cl P w K mg base CX0 3 "_law_excused" spExcused2 := by
  refine Cl.of T.d__law_excused sc__law_excused (fun _ _ _ _ _ _ us h => by obtain ⟨u0, u1, rfl⟩ := len2 h; rfl) (fun vs H Q E h => by obtain ⟨m, c, l, N, qq, ppl, rfl, hM, hN, hq, q⟩ := h; rfl) fun f cdv A outer s H vs Q E hr h => ?_
  obtain ⟨m, c, l, N, qq, ppl, rfl, hM, hN, hq, q⟩ := h
  refine ⟨_, PSs.nox ((pss_one (ps_ret (pe_callTy call_tupleS (by rfl) T.f_tuple boot_tuple (pa_cons (pe_callB cr_sortedS (by rfl) T.f_sorted boot_sorted (pa_cons (pe_lcS (own := [("_law_name", 2)]) (by rfl) sc__law_excused.nd (pi_list (pe_op op_catS (pv 1) (pe_lstS (pa_cons pe_str pa_nil)))) (blkOk_by (own := [("_law_name", 2)]) (N := N__law_excused) (sc := defScope (top 97)) (by decide +kernel)) (fun _ _ _ _ _ => (pg_name (i := 2) sc__law_excused.nd rfl (Or.inl rfl))) (fun _ _ _ _ _ => (pts_one (pt_cmpR op_eq (pc (c__law_draw T) (hr.mono (by decide)) pass0 (pa_cons (pv 0) (pa_cons pe_int pa_nil))) pe_int (nomark _)))) (fun _ _ _ _ _ => (pv 2))) pa_nil)) pa_nil))))), ?_⟩
  refine ⟨_, rfl, le1, fun p1 H1 hp1 s1 h1 => ⟨qq, p1, _, _, rfl, rfl, s1 _ _ hq.at_, h1, by rw [List.length_map, hq.len]; decide, fun p2 H2 hp2 s2 h2 => ?_⟩⟩
  have s12 := s1.trans s2
  have hM2 := hM.mono s12
  have h2 : H2 p2 = some (.lst ((ppl ++ (["qqq"] : List Str)).map V.str)) := by rw [h2, List.map_append]; rfl
  have np2 : p2 ≠ l := (hM.mono s1).new hp2
  refine ⟨p2, rfl, ⟨_, SqL.of h2⟩, fun D hD => ?_⟩
  have hDH : H D = none := none_back s12 hD
  have nD2 : p2 ≠ D := ne_of_none h2 hD
  obtain ⟨okd, okn⟩ := ppl_q hq.ok
  have hlen : (ppl ++ (["qqq"] : List Str)).length = 7 := by rw [List.length_append, hq.len]; rfl
  refine lcP (A := rS) (ds := ppl ++ (["qqq"] : List Str)) src_list (Pv := fun i acc H3 => ∃ sub : List Str, acc = sub.map V.str ∧ Bar m l H H3 ∧ IsM H3 m c l (N + i) ∧ H3 D = some (.lst acc) ∧ acc.length ≤ i ∧ sub.Sublist ((ppl ++ (["qqq"] : List Str)).take i) ∧ H3 p2 = some (.lst ((ppl ++ (["qqq"] : List Str)).map V.str))) (by omega) ?_ ?_ ?_ ?_ ?_
  · obtain ⟨a1, a2⟩ := app_bar (acc := []) (ys := []) (H' := upd H2 D (.lst [])) hM hDH (Bar.trans s12.bar (Same.new hD).bar) (hM2.mono (Same.new hD)) upd_same
    rw [upd_upd] at a1 a2
    exact ⟨[], rfl, a1, a2, upd_same, Nat.le_refl _, by simp, by rw [upd_ne nD2]; exact h2⟩
  · rintro i acc H3 ⟨sub, rfl, x3, hM3, hD3, hl3, hs, hp3⟩
    exact ⟨hD3, hl3⟩
  · rintro i acc H3 ⟨sub, rfl, x3, hM3, hD3, hl3, hs, hp3⟩
    exact ⟨_, hp3, str_pr _⟩
  · rintro i d x H3 H4 acc hd ⟨sub, rfl, x3, hM3, hD3, hl3, hs, hp3⟩ s4 r
    obtain rfl : x = .str d := r
    have hi := lt_of_get hd
    refine ⟨rfl, _, rfl, m, c, l, _, 3, rfl, hM3.mono s4, by omega, by decide, by decide, fun i5 H5 x5 hM5 a5 b5 => ⟨rfl, _, rfl, ?_⟩⟩
    have x05 := Bar.trans x3 (Bar.trans s4.bar x5)
    have hD5 := (hM3.mono s4).keep x5 (s4 _ _ hD3) (hM2.new hD)
    have hp5 := (hM3.mono s4).keep x5 (s4 _ _ hp3) np2
    refine ite2 (fun z => ?_) (fun z => ?_)
    · obtain ⟨a1, a2⟩ := app_bar (ys := sub.map V.str ++ [V.str d]) hM hDH x05 hM5 hD5
      exact ⟨_, rfl, hD5, sub ++ [d], by rw [List.map_append]; rfl, a1, a2, upd_same, by rw [List.length_append]; exact Nat.succ_le_succ hl3, by rw [take_more hd]; exact List.Sublist.append hs (List.Sublist.refl _), by rw [upd_ne nD2]; exact hp5⟩
    · refine ⟨sub, rfl, x05, hM5, hD5, Nat.le_succ_of_le hl3, ?_, hp5⟩
      rw [take_more hd]
      exact hs.trans (List.sublist_append_left _ _)
  · rintro acc H3 ⟨sub, rfl, x3, hM3, hD3, hl3, hs, hp3⟩
    rw [List.take_length] at hs
    have hsl : sub.length ≤ 7 := by rw [← hlen]; exact hs.length_le
    refine ⟨D, sub, rfl, SqL.of hD3, by omega, fun ys p4 hperm hsort hp4 => ?_⟩
    have s4 := Same.new (o := .lst (ys.map V.str)) hp4
    refine ⟨p4, _, rfl, upd_same, fun p5 H5 hp5 s5 h5 => ?_⟩
    refine q _ ys H5 (Bar.trans x3 (s4.trans s5).bar) ((hM3.mono (s4.trans s5)).le (by omega)) ⟨p5, _, rfl, h5, str_pr _⟩ ⟨by rw [hperm.length_eq]; omega, fun n hn => okn n (hs.subset (hperm.mem_iff.mp hn)), sorted_strict ys hsort (hperm.nodup_iff.mpr (okd.sublist hs))⟩
abbrev N__law_county : List Str := ["_law_m", "_law_people_here", "_law_parishes", "_law_houses", "_law_names", "_law_found", "_law_k", "_law_own", "_law_j", "_law_worth_here"]
theorem sc__law_county : FnScope N__law_county ["_law_m", "_law_people_here", "_law_parishes", "_law_houses"] (defScope (top 95)) := ⟨rfl, rfl, rfl, by decide +kernel, rfl, by decide +kernel, by decide +kernel⟩
theorem c__law_county (T : Txt w K mg) : Cl P w K mg base CX0 5 "_law_county" spCounty2 := by
  refine Cl.of T.d__law_county sc__law_county (fun _ _ _ _ _ _ us h => by obtain ⟨u0, u1, u2, u3, rfl⟩ := len4 h; rfl) (fun vs H Q E h => by obtain ⟨m, c, l, N, qq, ppl, rfl, hM, hN, hq, q⟩ := h; rfl) fun f cdv A outer s H vs Q E hr h => ?_
  obtain ⟨m, c, l, N, qq, ppl, rfl, hM, hN, hq, q⟩ := h
  refine ⟨_, PSs.nox ((pss_cons (ps_par (i := 4) (j := 5) rfl sc__law_county.nd rfl rfl (by decide) rfl rfl (pa_cons (pc (c__law_called T) (hr.mono (by decide)) pass0 (pa_cons (pv 0) (pa_cons (pe_op op_add pe_int (pe_op op_mul (pv 2) (pv 3))) pa_nil))) (pa_cons (pe_lstS pa_nil) pa_nil)) (by rfl))
  (pss_cons (ps_for PassesOwn.never rfl (pi_range1 rfl T.f_range (pa_cons (pe_op op_add pe_int (pc (c__law_draw T) (hr.mono (by decide)) pass0 (pa_cons (pv 0) (pa_cons (pv 2) pa_nil)))) pa_nil)) (pg_name (i := 6) sc__law_county.nd rfl (Or.inl rfl))
  (pss_cons (ps_set (i := 7) sc__law_county.nd rfl (Or.inl rfl) (pe_lstS pa_nil))
  (pss_cons (ps_for PassesOwn.never rfl (pi_range1 rfl T.f_range (pa_cons (pe_op op_add pe_int (pc (c__law_draw T) (hr.mono (by decide)) pass0 (pa_cons (pv 0) (pa_cons (pv 3) pa_nil)))) pa_nil)) (pg_name (i := 8) sc__law_county.nd rfl (Or.inl rfl))
  (pss_cons (ps_set (i := 9) sc__law_county.nd rfl (Or.inl rfl) (pe_callB (call_max2 rfl) (by rfl) T.f_max boot_max (pa_cons (pc (c__law_worth T) (hr.mono (by decide)) pass0 (pa_cons (pv 0) pa_nil)) (pa_cons (pe_callTy call_int1 (by rfl) T.f_int boot_int (pa_cons (pe_cmpR op_eq (pe_op op_add (pv 6) (pv 8)) pe_int (nomark _)) pa_nil)) pa_nil))))
  (pss_one (ps_expr (pe_bm PySem.F.plainAttrs_list PySem.F.slot_list_append PySem.F.type_list_append mt_append (pv 7) (pa_cons (pe_tupS (pa_cons (pe_ix ix_listS (pv 4) (pe_op op_add (pe_op op_add pe_int (pe_op op_mul (pv 6) (pv 3))) (pv 8)) (fun _ _ => rfl)) (pa_cons (pv 9) (pa_cons (pc (c__law_holdings T) (hr.mono (by decide)) pass0 (pa_cons (pv 0) (pa_cons (pv 1) (pa_cons (pe_ix ix_listS (pe_lstS (pa_cons pe_int (pa_cons pe_int (pa_cons pe_int pa_nil)))) (pc (c__law_draw T) (hr.mono (by decide)) pass0 (pa_cons (pv 0) (pa_cons pe_int pa_nil))) (fun _ _ => rfl)) pa_nil)))) pa_nil)))) pa_nil))))))
  (pss_one (ps_expr (pe_bm PySem.F.plainAttrs_list PySem.F.slot_list_append PySem.F.type_list_append mt_append (pv 5) (pa_cons (pe_tupS (pa_cons (pe_ix ix_listS (pv 4) (pv 6) (fun _ _ => rfl)) (pa_cons (pe_callTy call_tupleS (by rfl) T.f_tuple boot_tuple (pa_cons (pv 7) pa_nil)) pa_nil))) pa_nil)))))))
  (pss_one (ps_ret (pe_callTy call_tupleS (by rfl) T.f_tuple boot_tuple (pa_cons (pv 5) pa_nil))))))), ?_⟩
  refine ⟨_, rfl, _, rfl, _, rfl, _, _, rfl, rfl, .inl ⟨by decide, by decide⟩, _, _, rfl, rfl, m, c, l, N, 20, rfl, hM, by omega, by decide, fun pn ns H1 x1 hpn h1 hM1 hln okn => ?_⟩
  have hln : ns.length = 20 := hln
  refine ⟨le0, fun p H2 hp s2 h2 => ⟨_, _, rfl, ?_⟩⟩
  have npnl : pn ≠ l := hM.new hpn
  have hp0 : H p = none := hM.back hM1 x1 hp
  have npl : p ≠ l := hM.new hp0
  have npnp : pn ≠ p := ne_of_none h1 hp
  have hM2 := hM1.mono s2
  refine ⟨_, rfl, _, rfl, m, c, l, _, 3, rfl, hM2, by omega, by decide, by decide, fun d0 H3 x3 hM3 a3 b3 => ⟨_, _, rfl, rfl, 1 + d0, rfl, by omega, by omega, ?_⟩⟩
  have x03 : Bar m l H H3 := Bar.trans x1 (Bar.trans s2.bar x3)
  have hp3 := hM2.keep x3 h2 npl
  have hn3 := hM2.keep x3 (s2 _ _ h1) npnl
  refine forS (A := rI) (ds := (List.range (1 + d0).toNat).map fun i : Nat => (0 : Int) + (i : Int)) src_range (Pv := fun k σ H4 => ∃ x6 x7 x8 x9 acc, ∃ cty : County, ∃ idx : List Nat, σ = [some (.ref m), some (.ref qq), some (.int 3), some (.int 4), some (.ref pn), some (.ref p), x6, x7, x8, x9] ∧ Bar m l H H4 ∧ IsM H4 m c l (N + 401 + 900 * k) ∧ H4 p = some (.lst acc) ∧ H4 pn = some (.lst (ns.map V.str)) ∧ Paired (rParish H4) acc cty ∧
    cty.length = k ∧ cty.map (·.1) = (List.range k).map (nsF ns) ∧ (allHouses cty).map (·.1) = idx.map (nsF ns) ∧ idx.Pairwise (· < ·) ∧ (∀ i ∈ idx, i < 8 + 4 * k) ∧ (∀ pr ∈ cty, ParishOk pr) ∧ (∀ h ∈ allHouses cty, ∀ x ∈ h.2.2, x.1 ∈ ppl) ∧ (1 ≤ k → posC cty = true)) ?_ ?_ ?_ ?_
  · exact ⟨_, _, _, _, [], [], [], rfl, x03, hM3, hp3, hn3, .nil, rfl, rfl, rfl, List.Pairwise.nil, (fun i h => by cases h), (fun i h => by cases h), (fun i h => by cases h), fun h => by omega⟩
  · exact fun _ _ _ _ _ => True.intro
  · rintro k dk x σ H4 H4' hd ⟨x6, x7, x8, x9, acc, cty, idx, rfl, x4, hM4, hp4, hn4, pa, hcl, hcn, hhn, hpw, hib, hpo, hho, hpos⟩ s4 r
    obtain rfl : x = .int dk := r
    have hk : dk = (k : Int) ∧ k < 3 := by
      rw [List.getElem?_map] at hd
      cases e : (List.range (1 + d0).toNat)[k]? with
      | none => rw [e] at hd; cases hd
      | some j =>
        rw [e] at hd
        obtain ⟨e1, e2⟩ := List.getElem?_eq_some_iff.mp e
        rw [List.getElem_range] at e2
        rw [List.length_range] at e1
        have : (0 : Int) + (j : Int) = dk := Option.some.inj hd
        omega
    obtain ⟨rfl, hk3⟩ := hk
    have hM4' := hM4.mono s4
    have x4' := Bar.trans x4 s4.bar
    refine ⟨le0, fun po H5 hpo5 s5 h5 => ?_⟩
    have hpoH : H po = none := hM.back hM4' x4' hpo5
    have npol : po ≠ l := hM.new hpoH
    have npp : p ≠ po := ne_of_none (s4 _ _ hp4) hpo5
    have npnpo : pn ≠ po := ne_of_none (s4 _ _ hn4) hpo5
    have hM5 := hM4'.mono s5
    have s45 := s4.trans s5
    refine ⟨_, rfl, _, rfl, m, c, l, _, 4, rfl, hM5, by omega, by decide, by decide, fun d1 H6 x6' hM6 a6 b6 => ⟨_, _, rfl, rfl, 1 + d1, rfl, by omega, by omega, ?_⟩⟩
    have x06 := Bar.trans x4' (Bar.trans s5.bar x6')
    have tk46 : Tk H4 H6 := s45.tk.trans (hM5.tk x6')
    refine forS (A := rI) (ds := (List.range (1 + d1).toNat).map fun i : Nat => (0 : Int) + (i : Int)) src_range (Pv := fun j σ H7 => ∃ x8 x9 acc2, ∃ own : List House, ∃ idx2 : List Nat, σ = [some (.ref m), some (.ref qq), some (.int 3), some (.int 4), some (.ref pn), some (.ref p), some (.int k), some (.ref po), x8, x9] ∧ Bar m l H H7 ∧ Tk H4 H7 ∧ IsM H7 m c l (N + 401 + 900 * k + 1 + 210 * j) ∧ H7 p = some (.lst acc) ∧ H7 pn = some (.lst (ns.map V.str)) ∧ H7 po = some (.lst acc2) ∧ Paired (rHouse H7) acc2 own ∧
      own.length = j ∧ own.map (·.1) = idx2.map (nsF ns) ∧ idx2.Pairwise (· < ·) ∧ (∀ i ∈ idx2, 8 + 4 * k ≤ i ∧ i < 8 + 4 * k + j) ∧ (∀ h ∈ own, HouseOk h ∧ ∀ x ∈ h.2.2, x.1 ∈ ppl) ∧ (k = 0 → 1 ≤ j → HasW own)) ?_ ?_ ?_ ?_
    · exact ⟨_, _, [], [], [], rfl, x06, tk46, hM6, hM5.keep x6' (s45 _ _ hp4) npl, hM5.keep x6' (s45 _ _ hn4) npnl, hM5.keep x6' h5 npol, .nil, rfl, rfl, List.Pairwise.nil, (fun i h => by cases h), (fun i h => by cases h), fun _ h => by omega⟩
    · exact fun _ _ _ _ _ => True.intro
    · rintro j dj x σ H7 H7' he ⟨x8, x9, acc2, own, idx2, rfl, x7', t7, hM7, hp7, hn7, ho7, pb, hol, hon, hpw2, hib2, hok2, hps2⟩ s7 r
      obtain rfl : x = .int dj := r
      have hj : dj = (j : Int) ∧ j < 4 := by
        rw [List.getElem?_map] at he
        cases e : (List.range (1 + d1).toNat)[j]? with
        | none => rw [e] at he; cases he
        | some i =>
          rw [e] at he
          obtain ⟨e1, e2⟩ := List.getElem?_eq_some_iff.mp e
          rw [List.getElem_range] at e2
          rw [List.length_range] at e1
          have : (0 : Int) + (i : Int) = dj := Option.some.inj he
          omega
      obtain ⟨rfl, hj4⟩ := hj
      have hM7' := hM7.mono s7
      refine ⟨_, rfl, m, c, l, _, rfl, hM7', by omega, fun wo H8 x8' hM8 w0 w1 => ?_⟩
      refine ⟨_, rfl, _, rfl, _, _, rfl, rfl, rfl, .inr ⟨_, rfl, _, _, rfl, ?_⟩⟩
      have hwo : 0 ≤ (if (if decide (V.int ((k : Int) + (j : Int)) = V.int 0) = true then (1 : Int) else 0) > wo then (if decide (V.int ((k : Int) + (j : Int)) = V.int 0) = true then (1 : Int) else 0) else wo) ∧ (if (if decide (V.int ((k : Int) + (j : Int)) = V.int 0) = true then (1 : Int) else 0) > wo then (if decide (V.int ((k : Int) + (j : Int)) = V.int 0) = true then (1 : Int) else 0) else wo) ≤ 9999 ∧
          (k = 0 → j = 0 → 0 < (if (if decide (V.int ((k : Int) + (j : Int)) = V.int 0) = true then (1 : Int) else 0) > wo then (if decide (V.int ((k : Int) + (j : Int)) = V.int 0) = true then (1 : Int) else 0) else wo)) := by
        refine ⟨?_, ?_, ?_⟩
        · split <;> (try split) <;> omega
        · split <;> (try split) <;> omega
        · rintro rfl rfl
          rw [decide_eq_true (show V.int (((0 : Nat) : Int) + ((0 : Nat) : Int)) = V.int 0 from rfl)]
          simp only [if_true]
          split <;> omega
      generalize (if (if decide (V.int ((k : Int) + (j : Int)) = V.int 0) = true then (1 : Int) else 0) > wo then (if decide (V.int ((k : Int) + (j : Int)) = V.int 0) = true then (1 : Int) else 0) else wo) = wh at *
      have x08 := Bar.trans x7' (Bar.trans s7.bar x8')
      have ho8 := hM7'.keep x8' (s7 _ _ ho7) npol
      have hn8 := hM7'.keep x8' (s7 _ _ hn7) npnl
      have hidx : 8 + k * 4 + j < ns.length := by omega
      refine ⟨_, rfl, .inl ⟨rfl, _, SqL.of ho8⟩, _, rfl, _, rfl, _, rfl, _, _, rfl, rfl, .inr ⟨by decide, by decide⟩, _, _, rfl, rfl, _, rfl, _, _, rfl, rfl, pn, _, _, _, rfl, rfl, hn8, atI_nsF (i := 8 + k * 4 + j) (by omega) hidx, _, rfl, ?_⟩
      refine ⟨_, rfl, _, rfl, le3, fun p9 H9 hp9 s9 h9 => ⟨_, rfl, m, c, l, _, 3, rfl, hM8.mono s9, by omega, by decide, by decide, fun d9 H10 x10 hM10 a10 b10 => ?_⟩⟩
      have h10 : H10 p9 = some (.lst (([2, 5, 12] : List Int).map V.int)) := (hM8.mono s9).keep x10 h9 (hM8.new hp9)
      obtain ⟨mo, hmo, emo⟩ := pickI (fs := [2, 5, 12]) a10 b10
      have hmob : 0 ≤ mo ∧ mo ≤ 12 := by
        simp only [List.mem_cons, List.not_mem_nil, or_false] at hmo
        omega
      have x810 : Bar m l H8 H10 := Bar.trans s9.bar x10
      have x010 := Bar.trans x08 x810
      refine ⟨p9, _, d9, _, rfl, rfl, h10, emo, m, c, l, _, qq, ppl, mo, rfl, hM10, by omega, hq.bar hM x010, hmob.1, hmob.2, fun v11 hs11 H11 x11 hM11 r11 ok11 => ⟨le3, fun p12 H12 hp12 s12 h12 => ?_⟩⟩
      have x812 : Bar m l H8 H12 := Bar.trans x810 (Bar.trans x11 s12.bar)
      have x012 := Bar.trans x08 x812
      have hM12 := hM11.mono s12
      have ho12 := hM8.keep x812 ho8 npol
      have hn12 := hM8.keep x812 hn8 npnl
      have hp12' := hM8.keep x812 (hM7'.keep x8' (s7 _ _ hp7) npl) npl
      have ha2 : acc2.length = j := by rw [pr_len pb, hol]
      refine ⟨po, acc2, _, rfl, rfl, ho12, line_lt (by omega), ?_⟩
      obtain ⟨y1, y2⟩ := app_bar (ys := acc2 ++ [.ref p12]) hM hpoH x012 hM12 ho12
      have tkU : Tk H12 (upd H12 po (.lst (acc2 ++ [.ref p12]))) := Tk.upd ho12 fun _ z => by cases z
      have tk712 : Tk H7 H12 := s7.tk.trans ((hM7'.tk x8').trans (hM8.tk x812))
      refine ⟨_, _, acc2 ++ [.ref p12], own ++ [(nsF ns (8 + k * 4 + j), wh, hs11)], idx2 ++ [8 + k * 4 + j], rfl, y1, t7.trans (tk712.trans tkU), y2.le (by omega), by rw [upd_ne npp]; exact hp12', by rw [upd_ne npnpo]; exact hn12, upd_same, pr_snoc (mnL (tk712.trans tkU) pb) (Mon.go (A := rHouse) tkU ⟨p12, _, _, _, rfl, h12, rfl, rfl, mn s12 r11⟩), by rw [List.length_append, hol]; rfl, by rw [List.map_append, List.map_append, hon]; rfl, ?_, fun i hi => ?_, fun h hh => ?_, fun hk0 _ => ?_⟩
      · rw [List.pairwise_append]
        exact ⟨hpw2, List.pairwise_singleton _ _, fun a ha b hb => by rw [List.mem_singleton.mp hb]; have := (hib2 a ha).2; omega⟩
      · rcases List.mem_append.mp hi with z | z
        · have := hib2 i z
          omega
        · rw [List.mem_singleton.mp z]; omega
      · rcases List.mem_append.mp hh with z | z
        · exact hok2 h z
        · rw [List.mem_singleton.mp z]
          exact ⟨⟨okn.ok _ (nsF_mem hidx), hwo.1, hwo.2.1, ok11.len, ok11.all, ok11.apart⟩, ok11.hold⟩
      · by_cases hj0 : 1 ≤ j
        · obtain ⟨h, hh, hw⟩ := hps2 hk0 hj0
          exact ⟨h, List.mem_append_left _ hh, hw⟩
        · exact ⟨_, List.mem_append_right _ (List.mem_singleton.mpr rfl), hwo.2.2 hk0 (by omega)⟩
    · rintro σ H7 ⟨x8, x9, acc2, own, idx2, rfl, x7', t7, hM7, hp7, hn7, ho7, pb, hol, hon, hpw2, hib2, hok2, hps2⟩
      rw [List.length_map, List.length_range] at hM7 hol hib2 hps2
      have hcnt : 1 ≤ (1 + d1).toNat ∧ (1 + d1).toNat ≤ 4 := by omega
      have hk20 : k < ns.length := by omega
      refine ⟨_, rfl, .inl ⟨rfl, _, SqL.of hp7⟩, _, rfl, _, rfl, pn, _, _, _, rfl, rfl, hn7, atI_nsF rfl hk20, _, rfl, po, acc2, rfl, ho7, fun p8 H8 hp8 s8 h8 => ⟨le2, fun p9 H9 hp9 s9 h9 => ?_⟩⟩
      have s79 := s8.trans s9
      have ha : acc.length = k := by rw [pr_len pa, hcl]
      have hp9' := s79 _ _ hp7
      refine ⟨p, acc, _, rfl, rfl, hp9', line_lt (by omega), ?_⟩
      obtain ⟨y1, y2⟩ := app_bar (ys := acc ++ [.ref p9]) hM hp0 (Bar.trans x7' s79.bar) (hM7.mono s79) hp9'
      have tkU : Tk H9 (upd H9 p (.lst (acc ++ [.ref p9]))) := Tk.upd hp9' fun _ z => by cases z
      have eah : allHouses (cty ++ [(nsF ns k, own)]) = allHouses cty ++ own := by rw [allHouses_app]; simp [allHouses]
      refine ⟨_, _, _, _, acc ++ [.ref p9], cty ++ [(nsF ns k, own)], idx ++ idx2, rfl, y1, y2.le (by omega), upd_same, by rw [upd_ne npnp]; exact s79 _ _ hn7, pr_snoc (mnL (t7.trans (s79.tk.trans tkU)) pa) (Mon.go (A := rParish) tkU ⟨p9, _, _, rfl, h9, rfl, p8, acc2, rfl, s9 _ _ h8, mnL s79.tk pb⟩), by rw [List.length_append, hcl]; rfl, ?_, ?_, ?_, fun i hi => ?_, fun pr hpr => ?_, ?_, fun _ => ?_⟩
      · rw [List.map_append, hcn, List.range_succ, List.map_append]
        rfl
      · rw [eah, List.map_append, hhn, hon, List.map_append]
      · rw [List.pairwise_append]
        exact ⟨hpw, hpw2, fun a ha b hb => by have := hib a ha; have := (hib2 b hb).1; omega⟩
      · rcases List.mem_append.mp hi with z | z
        · have := hib i z
          omega
        · have := (hib2 i z).2
          omega
      · rcases List.mem_append.mp hpr with z | z
        · exact hpo pr z
        · rw [List.mem_singleton.mp z]
          exact ⟨okn.ok _ (nsF_mem hk20), by show 1 ≤ own.length; omega, by show own.length ≤ 20; omega, fun h hh => (hok2 h hh).1⟩
      · rw [eah]
        intro h hh
        rcases List.mem_append.mp hh with z | z
        · exact hho h z
        · exact (hok2 h z).2
      · unfold posC
        rw [eah, List.any_append, Bool.or_eq_true]
        by_cases hk0 : k = 0
        · obtain ⟨h, hh, hw⟩ := hps2 hk0 hcnt.1
          exact .inr (List.any_eq_true.mpr ⟨h, hh, decide_eq_true hw⟩)
        · exact .inl (hpos (by omega))
  · rintro σ H4 ⟨x6, x7, x8, x9, acc, cty, idx, rfl, x4, hM4, hp4, hn4, pa, hcl, hcn, hhn, hpw, hib, hpo, hho, hpos⟩
    rw [List.length_map, List.length_range] at hM4 hcl hcn hib hpos
    have hcnt : 1 ≤ (1 + d0).toNat ∧ (1 + d0).toNat ≤ 3 := by omega
    refine ⟨_, rfl, p, acc, rfl, hp4, fun p7 H7 hp7 s7 h7 => ?_⟩
    have hnd := nsF_nodup okn.nd hpw fun i hi => by have := hib i hi; omega
    have hlen : (allHouses cty).length ≤ 60 := by
      have e1 : (allHouses cty).length = idx.length := by
        have := congrArg List.length hhn
        rwa [List.length_map, List.length_map] at this
      have := nodup_le (l := idx) (m := List.range 20) (hpw.imp fun {a b} h e => by rw [e] at h; exact Nat.lt_irrefl _ h) fun i hi => List.mem_range.mpr (by have := hib i hi; omega)
      rw [List.length_range] at this
      omega
    refine q _ cty H7 (Bar.trans x4 s7.bar) ((hM4.mono s7).le (by omega)) ⟨p7, acc, rfl, h7, mnL s7.tk pa⟩ ⟨⟨by omega, by omega, hpo, ?_, hlen, by rw [hhn]; exact hnd⟩, hpos hcnt.1, hho⟩ (by omega)
    rw [hcn]
    refine nsF_nodup okn.nd (List.pairwise_lt_range) fun i hi => by have := List.mem_range.mp hi; omega
end
end K5
set_option maxHeartbeats 1000000
namespace K5
open PySem PySem.Spec PyProof.Rows L2
/-- a draw leaves the ledger as it is -/
theorem IsM.dk {H : Hp} {m c l : Addr} {N : Nat} (h : IsM H m c l N) : ∃ k, H m = some (.dK (mKvs c l k)) := by
  obtain ⟨cs, ls, k, h1, _⟩ := h
  exact ⟨k, h1⟩
theorem IsM.li {H : Hp} {m c l : Addr} {N : Nat} (h : IsM H m c l N) : ∃ ls : List Int, H l = some (.lst (ls.map V.int)) ∧ ls.length ≤ 100 := by
  obtain ⟨cs, ls, k, h1, h2, h3, h4, h5, h6, h7, h8, h9⟩ := h
  exact ⟨ls, h4, h6⟩
theorem at_mem {c l : Addr} {k : Int} : ((Sum.inr "at" : Key), V.int k) ∈ mKvs c l k := by
  unfold mKvs
  simp
theorem IsM.keepI {H H' : Hp} {m c l : Addr} {N : Nat} {a : Addr} {C dx : Addr} {fs : List (Str × V)} (hM : IsM H m c l N) (x : Bar m l H H') (h : H a = some (.ins C dx fs)) : H' a = some (.ins C dx fs) := by
  obtain ⟨k, h1⟩ := hM.dk
  obtain ⟨ls, h2, _⟩ := hM.li
  exact x a _ (ne_of h h1 (by intro z; cases z)) (ne_of h h2 (by intro z; cases z)) h
theorem IsM.keepD {H H' : Hp} {m c l : Addr} {N : Nat} {a : Addr} {kvs : List (Key × V)} (hM : IsM H m c l N) (x : Bar m l H H') (h : H a = some (.dK kvs)) (hk : ∀ kv ∈ kvs, ∃ a, kv.2 = .ref a) : H' a = some (.dK kvs) := by
  obtain ⟨k, h1⟩ := hM.dk
  obtain ⟨ls, h2, _⟩ := hM.li
  refine x a _ (fun e => ?_) (ne_of h h2 (by intro z; cases z)) h
  rw [e, h1] at h
  injection h with h
  injection h with h
  obtain ⟨b, hb⟩ := hk _ (by rw [← h]; exact at_mem)
  cases hb
theorem IsTerms.drw {CT : Addr} {H H' : Hp} {m c l d : Addr} {N n : Nat} (hM : IsM H m c l N) (x : Bar m l H H') (h : IsTerms CT H d n) : IsTerms CT H' d n := by
  obtain ⟨kvs, hd, hl, hk⟩ := h
  have tk := hM.tk x
  refine ⟨kvs, hM.keepD x hd (fun kv hkv => let ⟨a, _, e, _⟩ := hk kv hkv; ⟨a, e⟩), hl, fun kv hkv => ?_⟩
  obtain ⟨a, ts, e, h4, h5, h6⟩ := hk kv hkv
  refine ⟨a, ts, e, tk _ _ h4, h5, fun t ht => ?_⟩
  obtain ⟨a, dx, z, e, cm, wt, kv2, h1, h2, h3, h4, h5, h6⟩ := h6 t ht
  refine ⟨a, dx, z, e, cm, wt, kv2, h1, hM.keepI x h2, h3, hM.keepD x h4 (fun kv hk => ?_), h5, fun kv hk => ?_⟩
  · obtain ⟨y, ⟨a1, _, _, e1, _⟩, _⟩ := h6 kv hk
    exact ⟨a1, e1⟩
  · obtain ⟨y, hy, ho⟩ := h6 kv hk
    exact ⟨y, Mon.go (A := rP rS rI) tk hy, ho⟩
theorem IsBk.drw {CB : Addr} {H H' : Hp} {m c l b d : Addr} {N : Nat} {S : Bk} (hM : IsM H m c l N) (x : Bar m l H H') (h : IsBk CB H b d S) : IsBk CB H' b d S := by
  obtain ⟨bdx, vc, ve, vs, vk, hb, r1, r2, r3, r4⟩ := h
  have tk := hM.tk x
  exact ⟨bdx, vc, ve, vs, vk, hM.keepI x hb, Mon.go (A := rCounty) tk r1, Mon.go (A := rTL rS) tk r2, Mon.go (A := rTL rPRow) tk r3, Mon.go (A := rTL rRec) tk r4⟩
theorem IsLg.drw {CL CB CT : Addr} {H H' : Hp} {m c l p lb : Addr} {N M n : Nat} {S : Bk} (hM : IsM H m c l N) (x : Bar m l H H') (hM' : IsM H' m c l M) (nl : lb ≠ l) (h : IsLg CL CB CT H p lb S n) : IsLg CL CB CT H' p lb S n := by
  obtain ⟨dx, b, d, l2, xs, ys, hp, hl, hxl, hl2, hyl, hb, ht⟩ := h
  have hq : ∃ zs, H' l2 = some (.lst zs) ∧ zs.length ≤ 1000 := by
    by_cases e : l2 = l
    · obtain ⟨ls, h2, h3⟩ := hM'.li
      exact ⟨_, by rw [e]; exact h2, by rw [List.length_map]; omega⟩
    · exact ⟨ys, hM.keep x hl2 e, hyl⟩
  obtain ⟨zs, hz, hzl⟩ := hq
  exact ⟨dx, b, d, l2, xs, zs, hM.keepI x hp, hM.keep x hl nl, hxl, hz, hzl, hb.drw hM x, ht.drw hM x⟩
theorem LgN.drw {CL CB CT : Addr} {H H' : Hp} {m c l p lb : Addr} {N n k : Nat} {S : Bk} {z : Str} (hM : IsM H m c l N) (x : Bar m l H H') (hg : IsLg CL CB CT H p lb S n) (h : LgN CL CB H p z k) : LgN CL CB H' p z k := by
  obtain ⟨dx, b, d, l2, xs, ys, hp, hl, hxl, hl2, hyl, ⟨bdx0, vc0, ve0, vs0, vk0, hb, _⟩, ⟨kvs, hd, hl, hk⟩⟩ := hg
  obtain ⟨dx', b', l', l2', bdx, S', vc, ve, vs, vk, d', kvs', h1, h2, h3, h4⟩ := h
  have tk := hM.tk x
  rw [hp] at h1
  injection h1 with h1
  injection h1 with e1 e2 e3
  injection e3 with e3 _
  injection e3 with _ e3
  injection e3 with e3
  subst e3
  rw [hb] at h2
  injection h2 with h2
  injection h2 with f1 f2 f3
  have f4 : d = d' := by
    have := congrArg (fun fs : List (Str × V) => fs[7]?) f3
    have g : some (("by_parish" : Str), V.ref d) = some (("by_parish" : Str), V.ref d') := this
    injection g with g
    injection g with _ g
    injection g
  subst f4
  refine ⟨dx, b, _, l2, bdx0, S, vc0, ve0, vs0, vk0, d, kvs, hM.keepI x hp, hM.keepI x hb, hM.keepD x hd (fun kv hkv => let ⟨a, _, e, _⟩ := hk kv hkv; ⟨a, e⟩), ?_⟩
  rw [hd] at h3
  injection h3 with h3
  injection h3 with h3
  rw [h3]
  rcases h4 with h4 | ⟨a, ts, g1, g2, g3⟩
  · exact .inl h4
  · exact .inr ⟨a, ts, g1, tk _ _ g2, g3⟩
theorem IsLg.ins {CL CB CT : Addr} {H : Hp} {p lb : Addr} {S : Bk} {n : Nat} (h : IsLg CL CB CT H p lb S n) : ∃ dx b l2, H p = some (.ins CL dx (lgF b lb l2)) := by
  obtain ⟨dx, b, d, l2, xs, ys, hp, _⟩ := h
  exact ⟨dx, b, l2, hp⟩
theorem pickP {α : Type} {A : Rel α} {H : Hp} {us : List V} {hs : List α} {k : Int} (h : Paired (A H) us hs) (h0 : 0 ≤ k) (h1 : k < hs.length) : ∃ v x, atI us k = some v ∧ A H v x ∧ x ∈ hs := by
  obtain ⟨v, x, e1, e2, r⟩ : ∃ v x, us[k.toNat]? = some v ∧ hs[k.toNat]? = some x ∧ A H v x := by
    have hk : k.toNat < hs.length := by omega
    generalize k.toNat = i at hk
    clear h0 h1
    induction h generalizing i with
    | nil => exact absurd hk (Nat.not_lt_zero _)
    | cons r t ih =>
      cases i with
      | zero => exact ⟨_, _, rfl, rfl, r⟩
      | succ j => exact ih j (Nat.lt_of_succ_lt_succ hk)
  exact ⟨v, x, atI_int h0 e1, r, List.mem_of_getElem? e2⟩
theorem houses_ne {c : County} (h : posC c = true) : 1 ≤ (allHouses c).length := by
  obtain ⟨y, hy, _⟩ := List.any_eq_true.mp h
  exact List.length_pos_of_mem hy
def spDeed (CL CB CT : Addr) : Sp := fun vs H Q _ => ∃ m c l N q ppl p lb S n, vs = [.ref m, .ref q, .ref p] ∧ IsM H m c l N ∧ N ≤ 80000000 ∧ Ppl H q l ppl ∧ IsLg CL CB CT H p lb S n ∧ lb ≠ l ∧ BkOk ppl S ∧
  ∀ (t : Addr) (D : Deed) (H' : Hp), Bar m l H H' → IsM H' m c l (N + 50) → H' t = some (.tup (.str D.word :: D.parts)) → D.Ok ppl → Q (.ref t) H'
section
variable {P : Program} {w : World} {K : PySem.W.Frag} {mg : Str → Option Value} {base : Heap}
abbrev N__law_deed : List Str := ["_law_m", "_law_people_here", "_law_ledger", "_law_houses", "_law_excused_here", "_law_way", "_law_parish", "_law_own", "_law_house", "_law_other", "_law_some"]
theorem sc__law_deed : FnScope N__law_deed ["_law_m", "_law_people_here", "_law_ledger"] (defScope (top 99)) := ⟨rfl, rfl, rfl, by decide +kernel, rfl, by decide +kernel, by decide +kernel⟩
theorem c__law_deed (T : Txt w K mg) : Cl P w K mg base CX0 4 "_law_deed" (spDeed T.cLedger T.cBooks T.cTerm) := by
  refine Cl.of T.d__law_deed sc__law_deed (fun _ _ _ _ _ _ us h => by obtain ⟨u0, u1, u2, rfl⟩ := len3 h; rfl) (fun vs H Q E h => by obtain ⟨m, c, l, N, qq, ppl, p, lb, S, n, rfl, hM, hN, hq, hg, nlb, ok, q⟩ := h; rfl) fun f cdv A outer s H vs Q E hr h => ?_
  obtain ⟨m, c, l, N, qq, ppl, p, lb, S, n, rfl, hM, hN, hq, hg, nlb, ok, q⟩ := h
  refine ⟨_, PSs.nox ((pss_cons (ps_par3 (i := 3) (j := 4) (l := 5) rfl sc__law_deed.nd rfl rfl rfl (by decide) (by decide) (by decide) rfl rfl rfl (pa_cons (pe_lstS pa_nil) (pa_cons (pe_callTy call_listS (by rfl) T.f_list boot_list (pa_cons (pm0 (c_Ledger_excused T) (hr.mono (by decide)) pass0 (pv 2)) pa_nil)) (pa_cons (pc (c__law_draw T) (hr.mono (by decide)) pass0 (pa_cons (pv 0) (pa_cons pe_int pa_nil))) pa_nil))) (by rfl))
  (pss_cons (ps_for PassesOwn.never rfl (pi_tup (pm0 (c_Ledger_county T) (hr.mono (by decide)) pass0 (pv 2))) (pg_tupS (n := 2) rfl (pgs_cons (pg_name (i := 6) sc__law_deed.nd rfl (Or.inl rfl)) (pgs_cons (pg_name (i := 7) sc__law_deed.nd rfl (Or.inl rfl)) pgs_nil)))
  (pss_one (ps_expr (pe_bm PySem.F.plainAttrs_list PySem.F.slot_list_extend PySem.F.type_list_extend mt_extendT (pv 3) (pa_cons (pv 7) pa_nil)))))
  (pss_cons (ps_par (i := 8) (j := 9) rfl sc__law_deed.nd rfl rfl (by decide) rfl rfl (pa_cons (pe_ix ix_listS (pv 3) (pc (c__law_draw T) (hr.mono (by decide)) pass0 (pa_cons (pv 0) (pa_cons (pe_callB call_lenS (by rfl) T.f_len boot_len (pa_cons (pv 3) pa_nil)) pa_nil))) (fun _ _ => rfl)) (pa_cons (pe_ix ix_tupS (pe_ix ix_listS (pv 3) (pc (c__law_draw T) (hr.mono (by decide)) pass0 (pa_cons (pv 0) (pa_cons (pe_callB call_lenS (by rfl) T.f_len boot_len (pa_cons (pv 3) pa_nil)) pa_nil))) (fun _ _ => rfl)) pe_int (fun _ _ => rfl)) pa_nil)) (by rfl))
  (pss_cons (ps_if (pt_cmpR op_lt (pv 5) pe_int (nomark _)) (pss_one (ps_ret (pe_tupS (pa_cons pe_str (pa_cons (pe_callB (call_min2 rfl) (by rfl) T.f_min boot_min (pa_cons pe_int (pa_cons (pe_op op_add (pe_op op_add (pm0 (c_Ledger_day T) (hr.mono (by decide)) pass0 (pv 2)) pe_int) (pc (c__law_draw T) (hr.mono (by decide)) pass0 (pa_cons (pv 0) (pa_cons (pe_ix ix_listS (pe_lstS (pa_cons pe_int (pa_cons pe_int (pa_cons pe_int pa_nil)))) (pv 5) (fun _ _ => rfl)) pa_nil)))) pa_nil))) pa_nil))))) pss_nil)
  (pss_cons (ps_if (pt_cmpR op_lt (pv 5) pe_int (nomark _)) (pss_one (ps_ret (pe_tupS (pa_cons pe_str (pa_cons (pe_ix ix_tupS (pv 8) pe_int (fun _ _ => rfl)) (pa_cons (pe_ix ix_listS (pv 1) (pc (c__law_draw T) (hr.mono (by decide)) pass0 (pa_cons (pv 0) (pa_cons pe_int pa_nil))) (fun _ _ => rfl)) pa_nil)))))) pss_nil)
  (pss_cons (ps_if (pt_cmpR op_lt (pv 5) pe_int (nomark _)) (pss_one (ps_ret (pe_ix ix_listS (pe_lstS (pa_cons (pe_tupS (pa_cons pe_str (pa_cons (pe_ix ix_tupS (pv 8) pe_int (fun _ _ => rfl)) pa_nil))) (pa_cons (pe_tupS (pa_cons pe_str (pa_cons (pe_ix ix_tupS (pv 8) pe_int (fun _ _ => rfl)) (pa_cons (pv 9) pa_nil)))) pa_nil))) (pe_op op_mod (pv 5) pe_int) (fun _ _ => rfl)))) pss_nil)
  (pss_cons (ps_if (pt_cmpR op_lt (pv 5) pe_int (nomark _)) (pss_one (ps_ret (pe_tupS (pa_cons pe_str (pa_cons (pe_ix ix_tupS (pv 8) pe_int (fun _ _ => rfl)) (pa_cons (pe_ix ix_listS (pe_lstS (pa_cons (pe_ix ix_tupS (pv 8) pe_int (fun _ _ => rfl)) (pa_cons (pc (c__law_worth T) (hr.mono (by decide)) pass0 (pa_cons (pv 0) pa_nil)) (pa_cons (pc (c__law_worth T) (hr.mono (by decide)) pass0 (pa_cons (pv 0) pa_nil)) pa_nil)))) (pe_op op_sub (pv 5) pe_int) (fun _ _ => rfl)) pa_nil)))))) pss_nil)
  (pss_cons (ps_if (pt_cmpR op_lt (pv 5) pe_int (nomark _)) (pss_cons (ps_set (i := 10) sc__law_deed.nd rfl (Or.inl rfl) (pe_ix ix_listS (pe_lstS (pa_cons (pe_op op_catS (pv 1) (pe_lstS (pa_cons pe_str pa_nil))) (pa_cons (pe_op op_catS (pv 4) (pv 1)) pa_nil))) (pe_op op_sub (pv 5) pe_int) (fun _ _ => rfl)))
  (pss_one (ps_ret (pe_tupS (pa_cons (pe_ix ix_listS (pe_lstS (pa_cons pe_str (pa_cons pe_str pa_nil))) (pe_op op_sub (pv 5) pe_int) (fun _ _ => rfl)) (pa_cons (pe_ix ix_listS (pv 10) (pc (c__law_draw T) (hr.mono (by decide)) pass0 (pa_cons (pv 0) (pa_cons (pe_callB call_lenS (by rfl) T.f_len boot_len (pa_cons (pv 10) pa_nil)) pa_nil))) (fun _ _ => rfl)) pa_nil)))))) pss_nil)
  (pss_one (ps_ret (pe_tupS (pa_cons pe_str (pa_cons (pe_op op_add pe_int (pc (c__law_draw T) (hr.mono (by decide)) pass0 (pa_cons (pv 0) (pa_cons pe_int pa_nil)))) pa_nil)))))))))))))), ?_⟩
  obtain ⟨dx, bb, ll, hp⟩ := hg.ins
  refine ⟨le0, fun ph H1 hph s1 h1 => ⟨_, rfl, p, dx, _, rfl, s1 _ _ hp, rfl, p, lb, S, n, rfl, hg.mono s1, fun ve hve => ?_⟩⟩
  obtain ⟨ea, eus, rfl, hea, pe⟩ := hve
  refine ⟨ea, eus, rfl, .inr hea, fun px H2 hpx s2 h2 => ?_⟩
  have s12 := s1.trans s2
  refine ⟨_, rfl, m, c, l, N, 19, rfl, hM.mono s12, by omega, by decide, by decide, fun d1 H3 x3 hM3 a1 b1 => ?_⟩
  have hM2 := hM.mono s12
  have x03 : Bar m l H H3 := Bar.trans s12.bar x3
  have nph := hM.new hph
  have npx : px ≠ l := hM.new (none_back s1 hpx)
  have h3p := hM2.keep x3 (s2 _ _ h1) nph
  have h3x := hM2.keep x3 h2 npx
  have pe3 : Paired (rS H3) eus S.excused := mnL (s2.tk.trans (hM2.tk x3)) pe
  refine ⟨_, _, _, rfl, _, rfl, p, dx, _, rfl, hM.keepI x03 hp, rfl, p, lb, S, n, rfl, hg.drw hM x03 hM3 nlb, fun vc hvc => ?_⟩
  obtain ⟨ca, cus, rfl, hca, pcu⟩ := hvc
  have hc8 := ok.co.hi
  refine ⟨ca, rfl, ⟨cus, SqT.of hca⟩, ?_⟩
  refine forS (A := rParish) (ds := S.county) src_tup (Pv := fun i σ H4 => ∃ x6 x7 x8 x9 x10 acc, σ = [some (.ref m), some (.ref qq), some (.ref p), some (.ref ph), some (.ref px), some (.int d1), x6, x7, x8, x9, x10] ∧ Bar m l H H4 ∧ Tk H3 H4 ∧ IsM H4 m c l (N + 1) ∧ H4 ph = some (.lst acc) ∧ H4 px = some (.lst eus) ∧ Paired (rHouse H4) acc (allHouses (S.county.take i))) ?_ ?_ ?_ ?_
  · exact ⟨_, _, _, _, _, [], rfl, x03, Tk.refl _, hM3, h3p, h3x, .nil⟩
  · rintro i σ H4 hi ⟨x6, x7, x8, x9, x10, acc, rfl, x4, t4, hM4, h4, h4x, p4⟩
    exact okT_mono t4 ⟨cus, hca, pcu⟩
  · rintro i d x σ H4 H4' hd ⟨x6, x7, x8, x9, x10, acc, rfl, x4, t4, hM4, h4, h4x, p4⟩ s4 r
    obtain ⟨a1, p1, p3, rfl, h1', rfl, b, vs, rfl, hb, pb⟩ := r
    have h4' := s4 _ _ h4
    have hsz : acc.length + vs.length ≤ 1000 := by
      rw [pr_len p4, pr_len pb, ← List.length_append, ← allHouses_snoc hd]
      exact Nat.le_trans (allHouses_le _ _) (Nat.le_trans ok.co.len (by decide))
    refine ⟨a1, _, rfl, h1', rfl, _, _, rfl, _, _, rfl, rfl, ?_⟩
    refine ⟨_, rfl, .inl ⟨rfl, _, SqL.of h4'⟩, _, rfl, ph, b, acc, vs, rfl, rfl, h4', hb, by omega, ?_⟩
    have tk : Tk H4' (upd H4' ph (.lst (acc ++ vs))) := Tk.upd h4' fun _ z => by cases z
    obtain ⟨y1, y2⟩ := app_bar (ys := acc ++ vs) hM (none_back (Same.refl _) hph) (Bar.trans x4 s4.bar) (hM4.mono s4) h4'
    refine ⟨_, _, _, _, _, acc ++ vs, rfl, y1, t4.trans (s4.tk.trans tk), y2, upd_same, ?_, ?_⟩
    · rw [upd_ne (ne_of_none h1 hpx).symm]
      exact s4 _ _ h4x
    · rw [allHouses_snoc hd]
      exact pr_app (mnL (s4.tk.trans tk) p4) (mnL tk pb)
  rintro σ H4 ⟨x6, x7, x8, x9, x10, acc, rfl, x4, t4, hM4, h4, h4x, p4⟩
  rw [List.take_length] at p4
  have hal : acc.length = (allHouses S.county).length := pr_len p4
  have hne := houses_ne ok.pos
  have hfew := ok.co.len
  refine ⟨_, rfl, _, rfl, _, rfl, ph, _, rfl, .inl h4, m, c, l, _, (acc.length : Int), rfl, hM4, by omega, by omega, by omega, fun d5 H5 x5 hM5 a5 b5 => ?_⟩
  have h5 := hM4.keep x5 h4 nph
  have h5x := hM4.keep x5 h4x npx
  have tk5 := hM4.tk x5
  obtain ⟨v5, ho5, e5, r5, m5⟩ := pickP (mnL tk5 p4) a5 (by omega)
  refine ⟨ph, _, d5, _, rfl, rfl, h5, e5, ?_⟩
  refine ⟨_, rfl, _, rfl, _, rfl, ph, _, rfl, .inl h5, m, c, l, _, (acc.length : Int), rfl, hM5, by omega, by omega, by omega, fun d6 H6 x6 hM6 a6 b6 => ?_⟩
  have h6 := hM5.keep x6 h5 nph
  have h6x := hM5.keep x6 h5x npx
  have tk6 := hM5.tk x6
  have x06 := Bar.trans x4 (Bar.trans x5 x6)
  obtain ⟨v6, ho6, e6, r6, m6⟩ := pickP (mnL (tk5.trans tk6) p4) a6 (by omega)
  obtain ⟨h5a, y1, y2, y3, rfl, hA, rfl, rfl, rH⟩ := r5
  obtain ⟨h6a, z1, z2, z3, rfl, hB, rfl, rfl, _⟩ := r6
  have hA6 := tk6 _ _ hA
  have nm5 := (ok.co.house _ m5).nm
  have nm6 := (ok.co.house _ m6).nm
  refine ⟨ph, _, d6, _, rfl, rfl, h6, e6, h6a, _, 0, _, rfl, rfl, hB, rfl, _, _, rfl, ?_⟩
  have hg6 := hg.drw hM x06 hM6 nlb
  have hp6 := hM.keepI x06 hp
  have hq6 := hq.bar hM x06
  have e6x : eus = S.excused.map V.str := pr_str pe3
  refine ⟨_, rfl, _, _, rfl, rfl, _, rfl, ite2 (fun z => ?_) (fun z => ?_)⟩
  · have z : d1 < 3 := of_decide_eq_true z
    refine ⟨_, rfl, p, dx, _, rfl, hp6, rfl, p, lb, S, n, rfl, hg6, _, _, rfl, rfl, _, rfl, le3, fun p7 H7 hp7 s7 h7 => ?_⟩
    obtain ⟨e, he, ee⟩ := pickI (fs := [3, 20, 90]) a1 z
    have hb : 1 ≤ e ∧ e ≤ 90 := by
      simp only [List.mem_cons, List.not_mem_nil, or_false] at he
      omega
    refine ⟨_, rfl, p7, _, d1, _, rfl, rfl, h7, ee, m, c, l, _, e, rfl, hM6.mono s7, by omega, by omega, by omega, fun d8 H8 x8 hM8 a8 b8 => ⟨_, _, rfl, rfl, _, _, rfl, le2, fun p9 H9 hp9 s9 h9 => ?_⟩⟩
    exact q p9 (.day _) H9 (Bar.trans x06 (Bar.trans s7.bar (Bar.trans x8 s9.bar))) ((hM8.mono s9).le (by omega)) h9 True.intro
  have z3 : ¬ d1 < 3 := fun e => z (decide_eq_true e)
  refine ⟨_, rfl, _, _, rfl, rfl, _, rfl, ite2 (fun z => ?_) (fun z => ?_)⟩
  · refine ⟨_, rfl, h5a, _, 0, _, rfl, rfl, hA6, rfl, _, rfl, _, rfl, m, c, l, _, 6, rfl, hM6, by omega, by decide, by decide, fun d7 H7 x7 hM7 a7 b7 => ?_⟩
    obtain ⟨nm, hnm, enm⟩ := pickS (fs := ppl) a7 (by rw [hq.len]; exact b7)
    refine ⟨qq, _, d7, _, rfl, rfl, (hq6.bar hM6 x7).at_, enm, le3, fun p8 H8 hp8 s8 h8 => ?_⟩
    exact q p8 (.come ho5.1 nm) H8 (Bar.trans x06 (Bar.trans x7 s8.bar)) ((hM7.mono s8).le (by omega)) h8 ⟨nm5, hq.ok.ok _ hnm, hnm⟩
  have z7 : ¬ d1 < 7 := fun e => z (decide_eq_true e)
  refine ⟨_, rfl, _, _, rfl, rfl, _, rfl, ite2 (fun z => ?_) (fun z => ?_)⟩
  · refine ⟨_, rfl, h5a, _, 0, _, rfl, rfl, hA6, rfl, le2, fun p7 H7 hp7 s7 h7 => ⟨_, rfl, h5a, _, 0, _, rfl, rfl, s7 _ _ hA6, rfl, _, rfl, le3, fun p8 H8 hp8 s8 h8 => ⟨le2, fun p9 H9 hp9 s9 h9 => ?_⟩⟩⟩
    have s69 := s7.trans (s8.trans s9)
    rcases (show d1 % 2 = 0 ∨ d1 % 2 = 1 by omega) with e | e
    · refine ⟨_, rfl, _, _, rfl, rfl, (by show (0 : Int) < 2; decide), p9, _, _, .ref p7, rfl, rfl, h9, (by rw [e]; rfl), ?_⟩
      exact q p7 (.go ho5.1) H9 (Bar.trans x06 s69.bar) ((hM6.mono s69).le (by omega)) (s9 _ _ (s8 _ _ h7)) nm5
    · refine ⟨_, rfl, _, _, rfl, rfl, (by show (0 : Int) < 2; decide), p9, _, _, .ref p8, rfl, rfl, h9, (by rw [e]; rfl), ?_⟩
      exact q p8 (.move ho5.1 ho6.1) H9 (Bar.trans x06 s69.bar) ((hM6.mono s69).le (by omega)) (s9 _ _ h8) ⟨nm5, nm6⟩
  have z12 : ¬ d1 < 12 := fun e => z (decide_eq_true e)
  refine ⟨_, rfl, _, _, rfl, rfl, _, rfl, ite2 (fun z => ?_) (fun z => ?_)⟩
  · have z : d1 < 15 := of_decide_eq_true z
    refine ⟨_, rfl, h5a, _, 0, _, rfl, rfl, hA6, rfl, _, rfl, h5a, _, 1, _, rfl, rfl, hA6, rfl, _, rfl, m, c, l, _, rfl, hM6, by omega, fun w7 H7 x7 hM7 w70 w71 => ⟨_, rfl, m, c, l, _, rfl, hM7, by omega, fun w8 H8 x8 hM8 w80 w81 => ⟨le3, fun p9 H9 hp9 s9 h9 => ?_⟩⟩⟩
    obtain ⟨e, he, ee⟩ := pickI (fs := [ho5.2.1, w7, w8]) (k := d1 - 12) (by omega) (by show d1 - 12 < 3; omega)
    refine ⟨_, rfl, _, _, rfl, rfl, p9, _, _, _, rfl, rfl, h9, ee, le3, fun p10 H10 hp10 s10 h10 => ?_⟩
    exact q p10 (.worth ho5.1 e) H10 (Bar.trans x06 (Bar.trans x7 (Bar.trans x8 (s9.trans s10).bar))) ((hM8.mono (s9.trans s10)).le (by omega)) h10 nm5
  have z15 : ¬ d1 < 15 := fun e => z (decide_eq_true e)
  refine ⟨_, rfl, _, _, rfl, rfl, _, rfl, ite2 (fun z => ?_) (fun z => ?_)⟩
  · have z : d1 < 17 := of_decide_eq_true z
    refine ⟨_, rfl, le1, fun p7 H7 hp7 s7 h7 => ⟨qq, p7, _, _, rfl, rfl, s7 _ _ hq6.at_, h7, by rw [List.length_map, hq.len]; decide, fun p8 H8 hp8 s8 h8 => ?_⟩⟩
    have s68 := s7.trans s8
    have hexl := ok.ex.len
    refine ⟨_, rfl, _, rfl, px, qq, _, _, rfl, rfl, s68 _ _ h6x, s68 _ _ hq6.at_, by rw [List.length_map, hq.len, e6x, List.length_map]; omega, fun p9 H9 hp9 s9 h9 => ⟨le2, fun p10 H10 hp10 s10 h10 => ?_⟩⟩
    have s610 := s68.trans (s9.trans s10)
    obtain ⟨ns, pp, hpp, hnl, hn1, hns, npp, epp⟩ : ∃ (ns : List Str) (pp : Addr), H10 pp = some (.lst (ns.map V.str)) ∧ ns.length ≤ 100 ∧ 1 ≤ ns.length ∧ (∀ z ∈ ns, NameOk z) ∧ pp ≠ l ∧ atI [V.ref p8, V.ref p9] (d1 - 15) = some (.ref pp) := by
      rcases (show d1 = 15 ∨ d1 = 16 by omega) with e | e
      · refine ⟨ppl ++ (["qqq"] : List Str), p8, ?_, by rw [List.length_append, hq.len]; decide, by rw [List.length_append, hq.len]; decide, (ppl_q hq.ok).2, hM6.new (none_back s7 hp8), by rw [e]; rfl⟩
        rw [List.map_append]
        exact s10 _ _ (s9 _ _ h8)
      · refine ⟨S.excused ++ ppl, p9, ?_, by rw [List.length_append, hq.len]; omega, by rw [List.length_append, hq.len]; omega, fun z hz => ?_, hM6.new (none_back s68 hp9), by rw [e]; rfl⟩
        · rw [List.map_append, ← e6x]
          exact s10 _ _ h9
        · rcases List.mem_append.mp hz with y | y
          · exact ok.ex.all z y
          · exact hq.ok.ok z y
    refine ⟨_, rfl, _, _, rfl, rfl, p10, _, _, _, rfl, rfl, h10, epp, le2, fun p11 H11 hp11 s11 h11 => ?_⟩
    obtain ⟨wd, hwd, ewd⟩ := pickS (fs := ["excuse", "charge"]) (k := d1 - 15) (by omega) (by show d1 - 15 < 2; omega)
    have hM11 := hM6.mono (s610.trans s11)
    have hnl' : ((ns.map V.str).length : Int) = ns.length := by rw [List.length_map]
    refine ⟨_, rfl, _, _, rfl, rfl, p11, _, _, _, rfl, rfl, h11, ewd, _, rfl, _, rfl, _, rfl, pp, _, rfl, .inl (s11 _ _ hpp), m, c, l, _, _, rfl, hM11, by omega, by omega, by omega, fun d12 H12 x12 hM12 a12 b12 => ?_⟩
    obtain ⟨nm, hnm, enm⟩ := pickS (fs := ns) a12 (by omega)
    refine ⟨pp, _, d12, _, rfl, rfl, hM11.keep x12 (s11 _ _ hpp) npp, enm, le2, fun p13 H13 hp13 s13 h13 => ?_⟩
    have xx := Bar.trans x06 (Bar.trans (s610.trans s11).bar (Bar.trans x12 s13.bar))
    have hwd : wd = "excuse" ∨ wd = "charge" := by simpa using hwd
    rcases hwd with rfl | rfl
    · exact q p13 (.excuse nm) H13 xx ((hM12.mono s13).le (by omega)) h13 (hns _ hnm)
    · exact q p13 (.charge nm) H13 xx ((hM12.mono s13).le (by omega)) h13 (hns _ hnm)
  · refine ⟨_, rfl, m, c, l, _, 2, rfl, hM6, by omega, by decide, by decide, fun d7 H7 x7 hM7 a7 b7 => ⟨_, _, rfl, rfl, le2, fun p8 H8 hp8 s8 h8 => ?_⟩⟩
    exact q p8 (.demand _) H8 (Bar.trans x06 (Bar.trans x7 s8.bar)) ((hM7.mono s8).le (by omega)) h8 True.intro
end
end K5
set_option maxHeartbeats 1000000
namespace K5
open PySem PySem.Spec PyProof.Rows L2
def spAny (CL CB CT : Addr) : Sp := fun vs H Q _ => ∃ m c l N q ppl p lb S n, vs = [.ref m, .ref q, .ref p] ∧ IsM H m c l N ∧ N ≤ 70000000 ∧ Ppl H q l ppl ∧ IsLg CL CB CT H p lb S n ∧ lb ≠ l ∧ BkOk ppl S ∧ n ≤ 1000 ∧
  ∀ (t : Addr) (D : Deed) (H' : Hp), Bar m l H H' → IsM H' m c l (N + 100) → H' t = some (.tup (.str D.word :: D.parts)) → D.Ok ppl → Q (.ref t) H'
theorem due_len {ppl : List Str} {S : Bk} (ok : BkOk ppl S) {z : Str} : (dueOf S z).length ≤ 1000000 := by
  unfold dueOf
  rw [List.length_map]
  exact Nat.le_trans (List.length_filter_le _ _) (Nat.le_trans ok.alen (by decide))
section
variable {P : Program} {w : World} {K : PySem.W.Frag} {mg : Str → Option Value} {base : Heap}
abbrev N__law_any : List Str := ["_law_m", "_law_people_here", "_law_ledger", "_law_way", "_law_county_here", "_law_parish", "_law_many", "_law_holder", "_law_term", "_law_owes", "_law_pence", "_law_row"]
theorem sc__law_any : FnScope N__law_any ["_law_m", "_law_people_here", "_law_ledger"] (defScope (top 100)) := ⟨rfl, rfl, rfl, by decide +kernel, rfl, by decide +kernel, by decide +kernel⟩
theorem c__law_any (T : Txt w K mg) : Cl P w K mg base CX0 9 "_law_any" (spAny T.cLedger T.cBooks T.cTerm) := by
  refine Cl.of T.d__law_any sc__law_any (fun _ _ _ _ _ _ us h => by obtain ⟨u0, u1, u2, rfl⟩ := len3 h; rfl) (fun vs H Q E h => by obtain ⟨m, c, l, N, qq, ppl, p, lb, S, n, rfl, hM, hN, hq, hg, nlb, ok, hn1, q⟩ := h; rfl) fun f cdv A outer s H vs Q E hr h => ?_
  obtain ⟨m, c, l, N, qq, ppl, p, lb, S, n, rfl, hM, hN, hq, hg, nlb, ok, hn1, q⟩ := h
  refine ⟨_, PSs.nox ((pss_cons (ps_par (i := 3) (j := 4) rfl sc__law_any.nd rfl rfl (by decide) rfl rfl (pa_cons (pc (c__law_draw T) (hr.mono (by decide)) pass0 (pa_cons (pv 0) (pa_cons pe_int pa_nil))) (pa_cons (pm0 (c_Ledger_county T) (hr.mono (by decide)) pass0 (pv 2)) pa_nil)) (by rfl))
  (pss_cons (ps_set (i := 5) sc__law_any.nd rfl (Or.inl rfl) (pe_ix ix_tupS (pe_ix ix_tupS (pv 4) (pc (c__law_draw T) (hr.mono (by decide)) pass0 (pa_cons (pv 0) (pa_cons (pe_callB call_lenS (by rfl) T.f_len boot_len (pa_cons (pv 4) pa_nil)) pa_nil))) (fun _ _ => rfl)) pe_int (fun _ _ => rfl)))
  (pss_cons (ps_par (i := 6) (j := 7) rfl sc__law_any.nd rfl rfl (by decide) rfl rfl (pa_cons (pe_callB call_lenS (by rfl) T.f_len boot_len (pa_cons (pm (c_Ledger_terms T) (hr.mono (by decide)) pass0 (pv 2) (pa_cons (pv 5) pa_nil)) pa_nil)) (pa_cons (pe_ix ix_listS (pv 1) (pc (c__law_draw T) (hr.mono (by decide)) pass0 (pa_cons (pv 0) (pa_cons pe_int pa_nil))) (fun _ _ => rfl)) pa_nil)) (by rfl))
  (pss_cons (ps_if (pt_cmpR op_lt (pv 3) pe_int (nomark _)) (pss_one (ps_ret (pc (c__law_deed T) (hr.mono (by decide)) pass0 (pa_cons (pv 0) (pa_cons (pv 1) (pa_cons (pv 2) pa_nil)))))) pss_nil)
  (pss_cons (ps_if (pt_cmpR op_eq (pv 3) pe_int (nomark _)) (pss_one (ps_ret (pe_tupS (pa_cons pe_str (pa_cons (pv 5) (pa_cons (pv 7) pa_nil)))))) pss_nil)
  (pss_cons (ps_if (pt_cmpR op_eq (pv 3) pe_int (nomark _)) (pss_one (ps_ret (L2.PE.cl (pe_ifExp (pt_cmpR op_eq (pm0 (c_Ledger_demanded T) (hr.mono (by decide)) pass0 (pv 2)) pe_int (nomark _)) (pe_tupS (pa_cons pe_str (pa_cons (pc (c__law_sum T) (hr.mono (by decide)) pass0 (pa_cons (pv 0) pa_nil)) pa_nil))) (pe_tupS (pa_cons pe_str (pa_cons (pe_op op_add (pm0 (c_Ledger_demanded T) (hr.mono (by decide)) pass0 (pv 2)) pe_int) pa_nil))))))) pss_nil)
  (pss_cons (ps_set (i := 8) sc__law_any.nd rfl (Or.inl rfl) (L2.PE.cl (pe_ifExp (pt_cmpR op_gt (pv 6) pe_int (nomark _)) (pc (c__law_draw T) (hr.mono (by decide)) pass0 (pa_cons (pv 0) (pa_cons (pe_op op_add (pv 6) (pe_callTy call_int1 (by rfl) T.f_int boot_int (pa_cons (pe_cmpR op_gt (pv 3) pe_int (nomark _)) pa_nil))) pa_nil))) pe_int)))
  (pss_cons (ps_if (pt_cmpR op_lt (pv 3) pe_int (nomark _)) (pss_cons (ps_set (i := 9) sc__law_any.nd rfl (Or.inl rfl) (pe_callB (cr_sumS rfl) (by rfl) T.f_sum boot_sum (pa_cons (pe_lcS (own := [("_law_row", 11)]) (by rfl) sc__law_any.nd (pi_list (pm (c_Ledger_due T) (hr.mono (by decide)) pass0 (pv 2) (pa_cons (pv 7) pa_nil))) (blkOk_by (own := [("_law_row", 11)]) (N := N__law_any) (sc := defScope (top 100)) (by decide +kernel)) (fun _ _ _ _ _ => (pg_name (i := 11) sc__law_any.nd rfl (Or.inl rfl))) (fun _ _ _ _ _ => pts_nil) (fun _ _ _ _ _ => (pe_ix ix_tupS (pv 11) pe_int (fun _ _ => rfl)))) pa_nil)))
  (pss_cons (ps_set (i := 10) sc__law_any.nd rfl (Or.inl rfl) (pe_ix ix_listS (pe_lstS (pa_cons (pe_op op_add pe_int (pc (c__law_draw T) (hr.mono (by decide)) pass0 (pa_cons (pv 0) (pa_cons pe_int pa_nil)))) (pa_cons (pv 9) (pa_cons (pe_op op_add pe_int (pe_op op_fdiv (pv 9) pe_int)) pa_nil)))) (pc (c__law_draw T) (hr.mono (by decide)) pass0 (pa_cons (pv 0) (pa_cons pe_int pa_nil))) (fun _ _ => rfl)))
  (pss_one (ps_ret (pe_tupS (pa_cons pe_str (pa_cons (pv 5) (pa_cons (pv 8) (pa_cons (pe_op op_add pe_int (pc (c__law_draw T) (hr.mono (by decide)) pass0 (pa_cons (pv 0) (pa_cons pe_int pa_nil)))) (pa_cons (pv 7) (pa_cons (pe_callB (call_min2 rfl) (by rfl) T.f_min boot_min (pa_cons (pe_op op_pow pe_int pe_int) (pa_cons (pv 10) pa_nil))) pa_nil))))))))))) pss_nil)
  (pss_cons (ps_set (i := 10) sc__law_any.nd rfl (Or.inl rfl) (pe_ix ix_listS (pe_lstS (pa_cons (pe_op op_add pe_int (pc (c__law_draw T) (hr.mono (by decide)) pass0 (pa_cons (pv 0) (pa_cons pe_int pa_nil)))) (pa_cons (L2.PE.cl (pe_ifExp (pt_cmpR op_lt (pv 8) (pv 6) (nomark _)) (pm (c_Ledger_hand T) (hr.mono (by decide)) pass0 (pv 2) (pa_cons (pv 5) (pa_cons (pv 8) pa_nil))) pe_int)) pa_nil))) (pc (c__law_draw T) (hr.mono (by decide)) pass0 (pa_cons (pv 0) (pa_cons pe_int pa_nil))) (fun _ _ => rfl)))
  (pss_one (ps_ret (pe_tupS (pa_cons (pe_ix ix_listS (pe_lstS (pa_cons pe_str (pa_cons pe_str pa_nil))) (pe_op op_sub (pv 3) pe_int) (fun _ _ => rfl)) (pa_cons (pv 5) (pa_cons (pv 8) (pa_cons (pe_callB (call_min2 rfl) (by rfl) T.f_min boot_min (pa_cons (pe_op op_pow pe_int pe_int) (pa_cons (pv 10) pa_nil))) pa_nil))))))))))))))))), ?_⟩
  obtain ⟨dx, bb, ll, hp⟩ := hg.ins
  refine ⟨_, rfl, m, c, l, N, 13, rfl, hM, by omega, by decide, by decide, fun w1 H1 x1 hM1 a1 b1 => ?_⟩
  refine ⟨_, rfl, p, dx, _, rfl, hM.keepI x1 hp, rfl, p, lb, S, n, rfl, hg.drw hM x1 hM1 nlb, fun vc hvc => ⟨_, _, rfl, ?_⟩⟩
  obtain ⟨ca, cus, rfl, hca, pcu⟩ := hvc
  have hcl : cus.length = S.county.length := pr_len pcu
  have hc8 := ok.co.hi
  have hc1 := ok.co.lo
  refine ⟨_, rfl, _, rfl, _, rfl, ca, _, rfl, .inr hca, m, c, l, _, (cus.length : Int), rfl, hM1, by omega, by omega, by omega, fun d2 H2 x2 hM2 a2 b2 => ?_⟩
  have tk2 := hM1.tk x2
  obtain ⟨v2, pr, e2, r2, m2⟩ := pickP (mnL tk2 pcu) a2 (by omega)
  obtain ⟨pa, y1, y2, rfl, hpa, rfl, _⟩ := r2
  have hpin : pr.1 ∈ S.county.map (·.1) := List.mem_map_of_mem m2
  have nmP := (ok.co.all _ m2).nm
  have x02 := Bar.trans x1 x2
  refine ⟨ca, _, d2, _, rfl, rfl, tk2 _ _ hca, e2, pa, _, 0, _, rfl, rfl, hpa, rfl, ?_⟩
  have hg2 := hg.drw hM x02 hM2 nlb
  refine ⟨_, rfl, p, dx, _, rfl, hM.keepI x02 hp, rfl, _, rfl, p, lb, S, n, pr.1, rfl, hg2, ok.co, nmP, hpin, fun pt us k3 H3 s3 h3 hk3 hk20 hN3 => ⟨pt, us, rfl, .inl h3, ?_⟩⟩
  have hM3 := hM2.mono s3
  refine ⟨_, rfl, _, rfl, m, c, l, _, 6, rfl, hM3, by omega, by decide, by decide, fun d4 H4 x4 hM4 a4 b4 => ?_⟩
  obtain ⟨nm, hnm, enm⟩ := pickS (fs := ppl) a4 (by rw [hq.len]; exact b4)
  have nmN := hq.ok.ok _ hnm
  have x04 : Bar m l H H4 := Bar.trans x02 (Bar.trans s3.bar x4)
  have hq4 := hq.bar hM x04
  have hg4 := hg.drw hM x04 hM4 nlb
  have hp4 := hM.keepI x04 hp
  have hN4 : LgN T.cLedger T.cBooks H4 p pr.1 us.length := by rw [hk3]; exact hN3.drw hM3 x4 (hg2.mono s3)
  have hus : us.length ≤ 20 := by omega
  clear hN3 hk3 hk20
  refine ⟨qq, _, d4, _, rfl, rfl, hq4.at_, enm, _, _, rfl, ?_⟩
  refine ⟨_, rfl, _, _, rfl, rfl, _, rfl, ite2 (fun z => ?_) (fun z => ?_)⟩
  · exact ⟨_, rfl, _, rfl, _, rfl, m, c, l, _, qq, ppl, p, lb, S, n, rfl, hM4, by omega, hq4, hg4, nlb, ok, fun t D H5 x5 hM5 ht hD => q t D H5 (Bar.trans x04 x5) (hM5.le (by omega)) ht hD⟩
  refine ⟨_, rfl, rfl, _, rfl, ite2 (fun z => ?_) (fun z => ?_)⟩
  · refine ⟨_, rfl, _, rfl, le3, fun p5 H5 hp5 s5 h5 => ?_⟩
    exact q p5 (.term pr.1 nm) H5 (Bar.trans x04 s5.bar) ((hM4.mono s5).le (by omega)) h5 ⟨nmP, nmN⟩
  refine ⟨_, rfl, rfl, _, rfl, ite2 (fun z => ?_) (fun z => ?_)⟩
  · refine ⟨_, ⟨_, rfl, p, dx, _, rfl, hp4, rfl, p, lb, S, n, rfl, hg4, rfl, _, rfl, ite2 (fun z2 => ?_) (fun z2 => ?_)⟩, fun _ _ h => h⟩
    · refine ⟨_, rfl, m, c, l, _, rfl, hM4, by omega, fun i5 H5 x5 hM5 i50 i51 => ⟨le2, fun p6 H6 hp6 s6 h6 => ?_⟩⟩
      exact q p6 (.close i5) H6 (Bar.trans x04 (Bar.trans x5 s6.bar)) ((hM5.mono s6).le (by omega)) h6 True.intro
    · refine ⟨_, rfl, p, dx, _, rfl, hp4, rfl, p, lb, S, n, rfl, hg4, _, _, rfl, rfl, le2, fun p6 H6 hp6 s6 h6 => ?_⟩
      exact q p6 (.demand _) H6 (Bar.trans x04 s6.bar) ((hM4.mono s6).le (by omega)) h6 True.intro
  refine ⟨fun v H5 => ∃ k : Int, v = .int k ∧ Bar m l H4 H5 ∧ IsM H5 m c l (N + 4) ∧ 0 ≤ k, ⟨_, rfl, _, _, rfl, rfl, _, rfl, ite2 (fun z => ?_) (fun z => ?_)⟩, ?_⟩
  · have z : (us.length : Int) > 0 := of_decide_eq_true z
    refine ⟨_, rfl, _, rfl, _, rfl, _, _, rfl, rfl, .inr ⟨_, rfl, _, _, rfl, rfl, m, c, l, _, _, rfl, hM4, by omega, ?_, ?_, fun d5 H5 x5 hM5 a5 b5 => ⟨d5, rfl, x5, hM5, a5⟩⟩⟩
    · split <;> omega
    · split <;> omega
  · exact ⟨0, rfl, Bar.refl, hM4.le (by omega), Int.le_refl _⟩
  rintro v H5 ⟨k5, rfl, x5, hM5, hk5⟩
  have x05 := Bar.trans x04 x5
  have hg5 := hg.drw hM x05 hM5 nlb
  have hp5 := hM.keepI x05 hp
  have hq5 := hq.bar hM x05
  have hN5 := hN4.drw hM4 x5 hg4
  refine ⟨_, rfl, _, _, rfl, rfl, _, rfl, ite2 (fun z => ?_) (fun z => ?_)⟩
  · refine ⟨_, rfl, p, dx, _, rfl, hp5, rfl, _, rfl, p, lb, S, n, ppl, nm, rfl, hg5, ok, nmN, fun q6 us6 H6 s6 hq6 h6 pu6 => ⟨q6, rfl, ⟨us6, SqL.of h6⟩, fun D hD => ?_⟩⟩
    refine lcM (A := rRow) (B := rI) (ds := dueOf S nm) src_list (fun r => r.2.2.2.2) hD (due_len ok) (fun H2 s2 => okL_mono s2 ⟨us6, h6, pu6⟩) (fun i d x H2 hd s2 r => ?_) fun acc H7 s7 hD7 pa7 => ?_
    · obtain ⟨a1, z1, z2, z3, z4, z5, rfl, h1, rfl, rfl, rfl, rfl, rfl⟩ := r
      exact ⟨rfl, _, rfl, a1, _, 4, _, rfl, rfl, h1, rfl, Same.refl _, rfl⟩
    refine ⟨D, acc, _, rfl, hD7, pa7, ?_⟩
    have s57 := s6.trans s7
    have hM7 := hM5.mono s57
    refine ⟨_, rfl, m, c, l, _, 100, rfl, hM7, by omega, by decide, by decide, fun d8 H8 x8 hM8 a8 b8 => ⟨_, _, rfl, rfl, _, rfl, _, rfl, _, _, rfl, rfl, ⟨by decide, by decide⟩, _, _, rfl, rfl, le3, fun p9 H9 hp9 s9 h9 => ?_⟩⟩
    have hM9 := hM8.mono s9
    refine ⟨_, rfl, m, c, l, _, 3, rfl, hM9, by omega, by decide, by decide, fun d10 H10 x10 hM10 a10 b10 => ?_⟩
    have h10 := hM9.keep x10 h9 (hM8.new hp9)
    obtain ⟨e, he, ee⟩ := pickI (fs := [1 + d8, ((dueOf S nm).map fun r => r.2.2.2.2).sum, 1 + ((dueOf S nm).map fun r => r.2.2.2.2).sum / 2]) a10 b10
    refine ⟨p9, _, d10, _, rfl, rfl, h10, ee, ?_⟩
    refine ⟨_, rfl, _, rfl, _, rfl, m, c, l, _, 9, rfl, hM10, by omega, by decide, by decide, fun d11 H11 x11 hM11 a11 b11 => ⟨_, _, rfl, rfl, _, rfl, _, _, rfl, rfl, ⟨by decide, by decide, by decide⟩, _, rfl, _, _, rfl, le6, fun p12 H12 hp12 s12 h12 => ?_⟩⟩
    exact q p12 (.pay pr.1 k5 (1 + d11) nm _) H12 (Bar.trans x05 (Bar.trans s57.bar (Bar.trans x8 (Bar.trans s9.bar (Bar.trans x10 (Bar.trans x11 s12.bar)))))) ((hM11.mono s12).le (by omega)) h12 ⟨nmP, nmN, hnm⟩
  have z11 : ¬ w1 < 11 := fun e => z (decide_eq_true e)
  refine ⟨_, rfl, m, c, l, _, 100, rfl, hM5, by omega, by decide, by decide, fun d6 H6 x6 hM6 a6 b6 => ⟨_, _, rfl, rfl, ?_⟩⟩
  have x06 := Bar.trans x05 x6
  have hg6 := hg.drw hM x06 hM6 nlb
  have hp6 := hM.keepI x06 hp
  have hN6 := hN5.drw hM5 x6 hg5
  refine ⟨fun v H7 => ∃ k : Int, v = .int k ∧ Same H6 H7, ⟨_, rfl, _, rfl, _, _, rfl, rfl, _, rfl, ite2 (fun z => ?_) (fun z => ?_)⟩, ?_⟩
  · have z : k5 < (us.length : Int) := of_decide_eq_true z
    exact ⟨_, rfl, p, dx, _, rfl, hp6, rfl, _, rfl, _, rfl, p, lb, S, n, pr.1, k5, us.length, rfl, hg6, hn1, ok.co, nmP, hpin, hN6, hk5, z, fun i H7 s7 => ⟨i, rfl, s7⟩⟩
  · exact ⟨5, rfl, Same.refl _⟩
  rintro v H7 ⟨k7, rfl, s7⟩
  refine ⟨le2, fun p8 H8 hp8 s8 h8 => ?_⟩
  have hM8 := hM6.mono (s7.trans s8)
  refine ⟨_, rfl, m, c, l, _, 2, rfl, hM8, by omega, by decide, by decide, fun d10 H10 x10 hM10 a10 b10 => ?_⟩
  have h10 := hM8.keep x10 h8 (hM6.new (none_back s7 hp8))
  obtain ⟨e, he, ee⟩ := pickI (fs := [1 + d6, k7]) a10 b10
  refine ⟨p8, _, d10, _, rfl, rfl, h10, ee, ?_⟩
  refine ⟨le2, fun p11 H11 hp11 s11 h11 => ?_⟩
  have hw : w1 = 11 ∨ w1 = 12 := by omega
  obtain ⟨wd, hwd, ewd⟩ := pickS (fs := ["hand", "pass"]) (k := w1 - 11) (by omega) (by show w1 - 11 < 2; omega)
  refine ⟨_, rfl, _, _, rfl, rfl, p11, _, _, _, rfl, rfl, h11, ewd, _, rfl, _, rfl, _, _, rfl, rfl, ⟨by decide, by decide, by decide⟩, _, rfl, _, _, rfl, le4, fun p12 H12 hp12 s12 h12 => ?_⟩
  have xx := Bar.trans x06 (Bar.trans (s7.trans s8).bar (Bar.trans x10 (s11.trans s12).bar))
  have hwd : wd = "hand" ∨ wd = "pass" := by simpa using hwd
  rcases hwd with rfl | rfl
  · exact q p12 (.hand pr.1 k5 _) H12 xx ((hM10.mono (s11.trans s12)).le (by omega)) h12 nmP
  · exact q p12 (.pass pr.1 k5 _) H12 xx ((hM10.mono (s11.trans s12)).le (by omega)) h12 nmP
end
end K5
set_option maxHeartbeats 1000000
namespace K5
open PySem PySem.Spec PyProof.Rows L2
theorem passF {X : L2.Cx} (pins : List (Addr × Obj)) (σ : L2.St) (H : Hp) (s : Shared) (e : Value) (s' : Shared) (_ : Inv X pins σ H s) (h : L2.CX X.prog X.w X.stack H s (fun _ _ _ => False) e s') : X.xe e s' := by
  obtain ⟨_, _, _, _, _, _, _, _, _, _, _, _, h⟩ := h
  exact h.elim
theorem Bar.via {m l p lb : Addr} {H H1 H2 : Hp} (x : Bar m l H H1) (y : Bar p lb H1 H2) (hp : H p = none) (hl : H lb = none) : Bar m l H H2 := fun a u h1 h2 h => y a u (ne_of_none h hp) (ne_of_none h hl) (x a u h1 h2 h)
theorem IsM.other {H H1 H2 : Hp} {m c l p lb : Addr} {N M : Nat} (hM : IsM H m c l N) (hM1 : IsM H1 m c l M) (y : Bar p lb H1 H2) (hp : H p = none) (hl : H lb = none) : IsM H2 m c l M := by
  obtain ⟨cs, ls, k, h1, h2, h3, h4, _⟩ := hM
  obtain ⟨cs', ls', k', g1, g2, g3, g4, g5⟩ := hM1
  exact ⟨cs', ls', k', y _ _ (ne_of_none h1 hp) (ne_of_none h1 hl) g1, y _ _ (ne_of_none h2 hp) (ne_of_none h2 hl) g2, g3, y _ _ (ne_of_none h4 hp) (ne_of_none h4 hl) g4, g5⟩
theorem IsLg.tk {CL CB CT : Addr} {H H' : Hp} {p lb : Addr} {S : Bk} {n : Nat} (h : IsLg CL CB CT H p lb S n) (x : Bar p lb H H') : Tk H H' := by
  obtain ⟨dx, b, d, l2, xs, ys, hp, hl, _⟩ := h
  exact x.tk (fun us e => by rw [hp] at e; cases e) (fun us e => by rw [hl] at e; cases e)
theorem bk0_ok {ppl : List Str} {c : County} {t : Int} {ex : List Str} (g : CGood ppl c) (t0 : 0 ≤ t) (t1 : t ≤ 1000000000) (oe : ExcOk ex) : BkOk ppl (bk0 c t ex) :=
  ⟨g.co, g.pos, t0, t1, oe, g.hold, Int.le_refl _, by show (0 : Int) ≤ 2; decide, Int.le_refl _, by show (1 : Int) ≤ 20; decide, Int.le_refl _, by show (1 : Int) ≤ 360; decide, (fun r hr => by cases hr), Int.le_refl _, (fun r hr => by cases hr), Nat.zero_le _⟩
def spOpened (CL CB CT : Addr) : Sp := fun vs H Q _ => ∃ m c l N q ppl, vs = [.ref m, .ref q] ∧ IsM H m c l N ∧ N ≤ 70000000 ∧ Ppl H q l ppl ∧
  ∀ (p lb : Addr) (S : Bk) (H' : Hp), Bar m l H H' → IsM H' m c l (N + 5000) → H p = none → H lb = none → IsLg CL CB CT H' p lb S 6 → BkOk ppl S → S.coming = [] → S.shut = [] → Q (.ref p) H'
section
variable {P : Program} {w : World} {K : PySem.W.Frag} {mg : Str → Option Value} {base : Heap}
abbrev N__law_opened : List Str := ["_law_m", "_law_people_here", "_law_county_here", "_law_ledger", "_law_parish", "_law_houses", "_law_k"]
theorem sc__law_opened : FnScope N__law_opened ["_law_m", "_law_people_here"] (defScope (top 101)) := ⟨rfl, rfl, rfl, by decide +kernel, rfl, by decide +kernel, by decide +kernel⟩
theorem c__law_opened (T : Txt w K mg) : Cl P w K mg base CX0 12 "_law_opened" (spOpened T.cLedger T.cBooks T.cTerm) := by
  refine Cl.of T.d__law_opened sc__law_opened (fun _ _ _ _ _ _ us h => by obtain ⟨u0, u1, rfl⟩ := len2 h; rfl) (fun vs H Q E h => by obtain ⟨m, c, l, N, qq, ppl, rfl, hM, hN, hq, q⟩ := h; rfl) fun f cdv A outer s H vs Q E hr h => ?_
  obtain ⟨m, c, l, N, qq, ppl, rfl, hM, hN, hq, q⟩ := h
  refine ⟨_, PSs.nox ((pss_cons (ps_set (i := 2) sc__law_opened.nd rfl (Or.inl rfl) (pc (c__law_county T) (hr.mono (by decide)) pass0 (pa_cons (pv 0) (pa_cons (pv 1) (pa_cons pe_int (pa_cons pe_int pa_nil))))))
  (pss_cons (ps_set (i := 3) sc__law_opened.nd rfl (Or.inl rfl) (pk (c_Ledger_init T) (hr.mono (by decide)) pass0 (pa_cons (pv 2) (pa_cons (pc (c__law_sum T) (hr.mono (by decide)) pass0 (pa_cons (pv 0) pa_nil)) (pa_cons (pc (c__law_excused T) (hr.mono (by decide)) pass0 (pa_cons (pv 0) (pa_cons (pv 1) pa_nil))) pa_nil)))))
  (pss_cons (ps_for PassesOwn.never rfl (pi_tup (pv 2)) (pg_tupS (n := 2) rfl (pgs_cons (pg_name (i := 4) sc__law_opened.nd rfl (Or.inl rfl)) (pgs_cons (pg_name (i := 5) sc__law_opened.nd rfl (Or.inl rfl)) pgs_nil)))
  (pss_one (ps_for PassesOwn.never rfl (pi_range1 rfl T.f_range (pa_cons (pe_op op_add pe_int (pc (c__law_draw T) (hr.mono (by decide)) pass0 (pa_cons (pv 0) (pa_cons pe_int pa_nil)))) pa_nil)) (pg_name (i := 6) sc__law_opened.nd rfl (Or.inl rfl))
  (pss_one (ps_expr (pm (c_Ledger_do T) (hr.mono (by decide)) passF (pv 3) (pa_cons (pe_tupS (pa_cons pe_str (pa_cons (pv 4) (pa_cons (pe_ix ix_listS (pv 1) (pv 6) (fun _ _ => rfl)) pa_nil)))) pa_nil)))))))
  (pss_one (ps_ret (pv 3))))))), ?_⟩
  refine ⟨_, rfl, _, rfl, m, c, l, N, qq, ppl, rfl, hM, by omega, hq, fun vc cty H1 x1 hM1 rc g hc3 => ?_⟩
  refine ⟨_, rfl, _, rfl, m, c, l, _, rfl, hM1, by omega, fun t H2 x2 hM2 t0 t1 => ?_⟩
  have x02 := Bar.trans x1 x2
  refine ⟨_, rfl, _, rfl, m, c, l, _, qq, ppl, rfl, hM2, by omega, hq.bar hM x02, fun ve ex H3 x3 hM3 re oe => ?_⟩
  have x03 := Bar.trans x02 x3
  have tk13 : Tk H1 H3 := (hM1.tk x2).trans (hM2.tk x3)
  have rc3 := Mon.go (A := rCounty) tk13 rc
  refine fun x dx2 hx hdx hne => ?_
  have s0 : Same H3 (upd (upd H3 dx2 (.own x)) x (.ins T.cLedger dx2 [])) := fun a u h => by
    rw [upd_ne (ne_of_none h hx), upd_ne (ne_of_none h hdx)]
    exact h
  refine ⟨x, dx2, vc, ve, t, cty, ex, rfl, upd_same, mn s0 rc3, g.co, g.pos, t0, t1, mn s0 re, oe, fun lb H4 keep hlb hg4 => ⟨rfl, ?_⟩⟩
  have s34 : Same H3 H4 := fun a u h => keep a u (ne_of_none h hx) (s0 a u h)
  have hxH : H x = none := hM.back hM3 x03 hx
  have hlbH : H lb = none := hM.back hM3 x03 (none_back s0 hlb)
  have nlb : lb ≠ l := hM.new hlbH
  have x04 := Bar.trans x03 s34.bar
  have hM4 := hM3.mono s34
  obtain ⟨ca, cus, rfl, hca, pcu⟩ := Mon.go (A := rCounty) s34.tk rc3
  have ok : BkOk ppl (bk0 cty t ex) := bk0_ok g t0 t1 oe
  have hco : (bk0 cty t ex).coming.length ≤ 0 := Nat.le_refl _
  generalize hS : bk0 cty t ex = S at *
  have hcom : S.coming = [] := by rw [← hS]; rfl
  have hshut : S.shut = [] := by rw [← hS]; rfl
  have hctyS : S.county = cty := by rw [← hS]; rfl
  refine ⟨_, rfl, ca, rfl, ⟨cus, SqT.of hca⟩, ?_⟩
  refine forS (A := rParish) (ds := cty) src_tup (Pv := fun i σ H5 => ∃ y4 y5 y6, σ = [some (.ref m), some (.ref qq), some (.ref ca), some (.ref x), y4, y5, y6] ∧ Bar m l H H5 ∧ IsM H5 m c l (N + 4000 + 5 + 10 + 2 * i) ∧ Tk H4 H5 ∧ IsLg T.cLedger T.cBooks T.cTerm H5 x lb S (2 * i)) ?_ ?_ ?_ ?_
  · exact ⟨_, _, _, rfl, x04, hM4, Tk.refl _, hg4⟩
  · rintro i σ H5 hi ⟨y4, y5, y6, rfl, x5, hM5, t5, hg5⟩
    exact okT_mono t5 ⟨cus, hca, pcu⟩
  · rintro i pr v σ H5 H5' hd ⟨y4, y5, y6, rfl, x5, hM5, t5, hg5⟩ s5 r
    obtain ⟨a1, p1, p2, rfl, h1, rfl, _⟩ := r
    have hi : i < cty.length := lt_of_get hd
    have hpm : pr ∈ cty := List.mem_of_getElem? hd
    have hpin : pr.1 ∈ S.county.map (·.1) := by rw [hctyS]; exact List.mem_map_of_mem hpm
    have nmP := (g.co.all _ hpm).nm
    refine ⟨a1, _, rfl, h1, rfl, _, _, rfl, _, _, rfl, rfl, ?_⟩
    have hM5' := hM5.mono s5
    refine ⟨_, rfl, m, c, l, _, 2, rfl, hM5', by omega, by decide, by decide, fun d6 H6 x6 hM6 a6 b6 => ⟨_, _, rfl, rfl, 1 + d6, rfl, by omega, by omega, ?_⟩⟩
    have x06 := Bar.trans x5 (Bar.trans s5.bar x6)
    refine forS (A := rI) (ds := (List.range (1 + d6).toNat).map fun i : Nat => (0 : Int) + (i : Int)) src_range (Pv := fun j σ H7 => ∃ y6, σ = [some (.ref m), some (.ref qq), some (.ref ca), some (.ref x), some (.str pr.1), some p2, y6] ∧ Bar m l H H7 ∧ IsM H7 m c l (N + 4000 + 5 + 10 + 2 * i + 1) ∧ Tk H4 H7 ∧ IsLg T.cLedger T.cBooks T.cTerm H7 x lb S (2 * i + j)) ?_ ?_ ?_ ?_
    · exact ⟨_, rfl, x06, hM6, t5.trans (s5.tk.trans (hM5'.tk x6)), (hg5.mono s5).drw hM5' x6 hM6 nlb⟩
    · exact fun _ _ _ _ _ => True.intro
    · rintro j dj v σ H7 H7' he ⟨y6, rfl, x7, hM7, t7, hg7⟩ s7 r
      obtain rfl : v = .int dj := r
      have hj : dj = (j : Int) ∧ j < 2 := by
        rw [List.getElem?_map] at he
        cases e : (List.range (1 + d6).toNat)[j]? with
        | none => rw [e] at he; cases he
        | some i =>
          rw [e] at he
          obtain ⟨e1, e2⟩ := List.getElem?_eq_some_iff.mp e
          rw [List.getElem_range] at e2
          rw [List.length_range] at e1
          have : (0 : Int) + (i : Int) = dj := Option.some.inj he
          omega
      obtain ⟨rfl, hj2⟩ := hj
      obtain ⟨nm, hnm, enm⟩ := pickS (fs := ppl) (k := (j : Int)) (by omega) (by rw [hq.len]; omega)
      have hg7' := hg7.mono s7
      obtain ⟨dx, bb, ll, hp⟩ := hg7'.ins
      have x07 := Bar.trans x7 s7.bar
      have hq7 := hq.bar hM x07
      refine ⟨_, rfl, x, dx, _, rfl, hp, rfl, _, rfl, _, rfl, _, rfl, qq, _, _, _, rfl, rfl, hq7.at_, enm, le3, fun pt H8 hpt s8 ht => ?_⟩
      have hM8 := (hM7.mono s7).mono s8
      refine ⟨x, lb, pt, S, 2 * i + j, ppl, .term pr.1 nm, rfl, ht, hg7'.mono s8, ok, by rw [hq.len]; decide, by rw [hcom]; exact Nat.zero_le _, by omega, ⟨nmP, hq.ok.ok _ hnm⟩, fun H9 a s9 _ _ _ => ?_, fun H9 S' xx x9 _ hg9 ok9 _ st _ => ?_, fun H9 s9 hc => ?_⟩
      · exact ⟨_, rfl, Bar.trans x07 (s8.trans s9).bar, hM8.mono s9, t7.trans (s7.trans (s8.trans s9)).tk, ((hg7'.mono s8).mono s9).le (Nat.le_succ _)⟩
      · obtain rfl : S' = S := st
        exact ⟨_, rfl, (Bar.trans x07 s8.bar).via x9 hxH hlbH, hM.other hM8 x9 hxH hlbH, t7.trans ((s7.trans s8).tk.trans ((hg7'.mono s8).tk x9)), hg9⟩
      · exact absurd ⟨hpin, by omega⟩ (hc rfl)
    · rintro σ H7 ⟨y6, rfl, x7, hM7, t7, hg7⟩
      rw [List.length_map, List.length_range] at hg7
      exact ⟨_, _, _, rfl, x7, hM7.le (by omega), t7, hg7.le (by omega)⟩
  · rintro σ H5 ⟨y4, y5, y6, rfl, x5, hM5, t5, hg5⟩
    exact ⟨_, rfl, q x lb S H5 x5 (hM5.le (by omega)) hxH hlbH (hg5.le (by omega)) ok hcom hshut⟩
end
end K5
set_option maxHeartbeats 1000000
namespace K5
open PySem PySem.Spec PyProof.Rows L2
abbrev DKey := Int × Str × Int
/-- what is owed of the open year: half, house, first day; whose, pence -/
def Ent (S : Bk) (key : DKey) (v : Str × Int) : Prop :=
  (key.1 = 1 ∨ key.1 = 2) ∧ ∃ h ∈ allHouses S.county, ∃ (i : Nat) (x : Hold) (p : Int), h.2.2[i]? = some x ∧ (partsSo h (sumOf S.county S.total h.1))[i]? = some p ∧
    key.2.1 = h.1 ∧ key.2.2 = x.2.1 ∧ v = (x.1, half key.1 p) ∧ 0 < half key.1 p ∧ inE x.1 S.excused = false
theorem mem_uniq {α β : Type} {f : α → β} {l : List α} (nd : (l.map f).Nodup) {x y : α} (hx : x ∈ l) (hy : y ∈ l) (e : f x = f y) : x = y := by
  induction l with
  | nil => cases hx
  | cons a l ih =>
    rw [List.map_cons, List.nodup_cons] at nd
    rcases List.mem_cons.mp hx with hx | hx
    · rcases List.mem_cons.mp hy with hy | hy
      · rw [hx, hy]
      · exact absurd (List.mem_map.mpr ⟨y, hy, by rw [← e, hx]⟩) nd.1
    · rcases List.mem_cons.mp hy with hy | hy
      · exact absurd (List.mem_map.mpr ⟨x, hx, by rw [e, hy]⟩) nd.1
      · exact ih nd.2 hx hy
theorem first_uniq {h : House} (ok : HouseOk h) {i j : Nat} {x y : Hold} (hx : h.2.2[i]? = some x) (hy : h.2.2[j]? = some y) (e : x.2.1 = y.2.1) : i = j := by
  have pw := List.pairwise_iff_getElem.mp (apart_pw ok.all ok.apart)
  obtain ⟨hi, ei⟩ := List.getElem?_eq_some_iff.mp hx
  obtain ⟨hj, ej⟩ := List.getElem?_eq_some_iff.mp hy
  have mx := (ok.all x (List.mem_of_getElem? hx)).mid
  have my := (ok.all y (List.mem_of_getElem? hy)).mid
  rcases Nat.lt_trichotomy i j with h1 | h1 | h1
  · have b := pw i j hi hj h1
    rw [ei, ej] at b
    have b : x.2.2 < y.2.1 := b
    omega
  · exact h1
  · have b := pw j i hj hi h1
    rw [ei, ej] at b
    have b : y.2.2 < x.2.1 := b
    omega
theorem ent_fun {S : Bk} (ok : CountyOk S.county) {key : DKey} {v w : Str × Int} (h1 : Ent S key v) (h2 : Ent S key w) : v = w := by
  obtain ⟨_, h, hh, i, x, p, e1, e2, e3, e4, e5, _⟩ := h1
  obtain ⟨_, g, hg, j, y, q, f1, f2, f3, f4, f5, _⟩ := h2
  have e : h = g := mem_uniq ok.hnd hh hg (e3.symm.trans f3)
  subst e
  have e : i = j := first_uniq (ok.house h hh) e1 f1 (e4.symm.trans f4)
  subst e
  rw [e1] at f1
  rw [e2] at f2
  cases f1
  cases f2
  rw [e5, f5]
theorem rows_mem {S : Bk} {k : Int} {r : Str × Row} (hr : r ∈ S.rows k) : ∃ h ∈ allHouses S.county, ∃ (i : Nat) (x : Hold) (p : Int), h.2.2[i]? = some x ∧ (partsSo h (sumOf S.county S.total h.1))[i]? = some p ∧
    r = (x.1, (S.year, k, h.1, x.2.1, half k p)) ∧ 0 < half k p ∧ inE x.1 S.excused = false := by
  unfold Bk.rows rowsHalf at hr
  obtain ⟨l, hl, hx⟩ := List.mem_flatten.mp hr
  obtain ⟨h, hh, rfl⟩ := List.mem_map.mp hl
  unfold rowsOf at hx
  obtain ⟨z, hz, rfl⟩ := List.mem_map.mp hx
  obtain ⟨hz1, hz2⟩ := List.mem_filter.mp hz
  obtain ⟨i, hi⟩ := List.mem_iff_getElem?.mp hz1
  rw [List.getElem?_zip_eq_some] at hi
  rw [Bool.and_eq_true] at hz2
  exact ⟨h, hh, i, z.1, z.2, hi.1, hi.2, rfl, of_decide_eq_true hz2.1, by simpa using hz2.2⟩
theorem mem_rows {S : Bk} {k : Int} {h : House} {i : Nat} {x : Hold} {p : Int} (hh : h ∈ allHouses S.county) (hx : h.2.2[i]? = some x) (hp : (partsSo h (sumOf S.county S.total h.1))[i]? = some p) (h0 : 0 < half k p) (he : inE x.1 S.excused = false) :
    ((x.1, (S.year, k, h.1, x.2.1, half k p)) : Str × Row) ∈ S.rows k := by
  unfold Bk.rows rowsHalf
  refine List.mem_flatten.mpr ⟨_, List.mem_map_of_mem hh, ?_⟩
  unfold rowsOf
  refine List.mem_map.mpr ⟨(x, p), List.mem_filter.mpr ⟨?_, ?_⟩, rfl⟩
  · exact List.mem_iff_getElem?.mpr ⟨i, by rw [List.getElem?_zip_eq_some]; exact ⟨hx, hp⟩⟩
  · show (decide (0 < half k p) && !inE x.1 S.excused) = true
    rw [decide_eq_true h0, he]
    rfl
theorem row_ent {ppl : List Str} {S : Bk} {r : Str × Row} (ok : BkOk ppl S) (hr : r ∈ S.all) (hy : r.2.1 = S.year) : Ent S (r.2.2.1, r.2.2.2.1, r.2.2.2.2.1) (r.1, r.2.2.2.2.2) := by
  unfold Bk.all at hr
  rcases List.mem_append.mp hr with z | z
  · have := (ok.old r z).1
    omega
  · obtain ⟨l, hl, hx⟩ := List.mem_flatten.mp z
    obtain ⟨n, hn, rfl⟩ := List.mem_map.mp hl
    have hn := List.mem_range.mp hn
    have v1 := ok.v1
    have v0 := ok.v0
    obtain ⟨h, hh, i, x, p, e1, e2, rfl, e4, e5⟩ := rows_mem hx
    exact ⟨(by show (n : Int) + 1 = 1 ∨ (n : Int) + 1 = 2; omega), h, hh, i, x, p, e1, e2, rfl, rfl, rfl, e4, e5⟩
theorem ent_row {S : Bk} {key : DKey} {v : Str × Int} (h2 : S.halves = 2) (h : Ent S key v) : ((v.1, (S.year, key.1, key.2.1, key.2.2, v.2)) : Str × Row) ∈ S.all := by
  obtain ⟨hk, h, hh, i, x, p, e1, e2, e3, e4, e5, e6, e7⟩ := h
  unfold Bk.all
  refine List.mem_append_right _ (List.mem_flatten.mpr ?_)
  have m := mem_rows (k := key.1) hh e1 e2 e6 e7
  refine ⟨S.rows key.1, ?_, by rw [e5, e3, e4]; exact m⟩
  rw [h2]
  rcases hk with hk | hk
  · rw [hk]
    exact List.mem_map.mpr ⟨0, by decide, rfl⟩
  · rw [hk]
    exact List.mem_map.mpr ⟨1, by decide, rfl⟩
/-! ### houses -/
def Near (a b c d : Int) : Prop := -d < a * d - b * c ∧ a * d - b * c < d
theorem near_at {t : Int} {ws : List Int} {i : Nat} {w f : Int} (hS : 0 < ws.sum) (h : ws[i]? = some w) (hf : (K5M.shareOut t ws)[i]? = some f) : Near f t w ws.sum := by
  obtain ⟨g, e1, _, e2, e3⟩ := K5M.share_at (t := t) hS h
  rw [hf] at e1
  cases e1
  exact ⟨e2, e3⟩
theorem near_part {h : House} {own : Int} {i : Nat} {x : Hold} {p : Int} (hx : h.2.2[i]? = some x) (hp : (partsSo h own)[i]? = some p) : Near p own (daysIn x) 360 := by
  have := near_at (t := own) (ws := wsOf h) (i := i) (w := daysIn x) (f := p) (by rw [ws_sum]; decide) (by
    unfold wsOf
    rw [List.getElem?_append_left (by rw [List.length_map]; exact (List.getElem?_eq_some_iff.mp hx).1), List.getElem?_map, hx]
    rfl) hp
  rwa [ws_sum] at this
theorem last_get {l : List Int} {n : Nat} (h : l.length = n + 1) : l[n]? = some (lastI l) := by
  have e := last_split h
  rw [e]
  have : l.dropLast.length = n := by rw [List.length_dropLast, h]; rfl
  rw [List.getElem?_append_right (by omega), this, Nat.sub_self, ← e]
  rfl
theorem near_last {h : House} {own : Int} : Near (lastI (partsSo h own)) own (emptySo h) 360 := by
  have := near_at (t := own) (ws := wsOf h) (i := h.2.2.length) (w := emptySo h) (f := lastI (partsSo h own)) (by rw [ws_sum]; decide) (by
    unfold wsOf
    rw [List.getElem?_append_right (by rw [List.length_map]; exact Nat.le_refl _), List.length_map, Nat.sub_self]
    rfl) (last_get (parts_len h own))
  rwa [ws_sum] at this
def paidOf (ex : List Str) (x : Hold × Int) : Int := if inE x.1.1 ex then 0 else x.2
theorem zip_sum (ex : List Str) : ∀ (hs : List Hold) (ps : List Int), ((hs.zip ps).map (paidOf ex)).sum + (((hs.zip ps).filter fun x => inE x.1.1 ex).map (·.2)).sum = ((hs.zip ps).map (·.2)).sum
  | [], _ => rfl
  | _ :: _, [] => rfl
  | x :: hs, p :: ps => by
    have ih := zip_sum ex hs ps
    rw [List.zip_cons_cons, List.map_cons, List.sum_cons, List.map_cons, List.sum_cons]
    by_cases e : inE x.1 ex = true
    · rw [List.filter_cons_of_pos (by exact e), List.map_cons, List.sum_cons, show paidOf ex (x, p) = 0 by unfold paidOf; rw [if_pos e]]
      show 0 + _ + (p + _) = p + _
      omega
    · rw [List.filter_cons_of_neg (by exact e), show paidOf ex (x, p) = p by unfold paidOf; rw [if_neg e]]
      show p + _ + _ = p + _
      omega
theorem zip_short {α : Type} : ∀ (hs : List α) (ps : List Int) (l : Int), ps.length = hs.length → (hs.zip (ps ++ [l])).map (·.2) = ps
  | [], [], _, _ => rfl
  | [], _ :: _, _, h => by simp at h
  | _ :: _, [], _, h => by simp at h
  | x :: hs, p :: ps, l, h => by
    rw [List.cons_append, List.zip_cons_cons, List.map_cons, zip_short hs ps l (by simpa using h)]
theorem house_total (h : House) (own : Int) (ex : List Str) : ((h.2.2.zip (partsSo h own)).map (paidOf ex)).sum + lastI (partsSo h own) + sparedOf h (partsSo h own) ex = own := by
  have h1 := zip_sum ex h.2.2 (partsSo h own)
  have h2 := parts_sum h own
  have h3 := last_split (parts_len h own)
  have h4 : ((h.2.2.zip (partsSo h own)).map (·.2)) = (partsSo h own).dropLast := by
    conv => lhs; rw [h3]
    exact zip_short _ _ _ (by rw [List.length_dropLast, parts_len]; rfl)
  have h5 : (partsSo h own).sum = (partsSo h own).dropLast.sum + lastI (partsSo h own) := by
    conv => lhs; rw [h3]
    rw [List.sum_append, List.sum_cons, List.sum_nil]
    omega
  rw [h4] at h1
  unfold sparedOf
  omega
/-! ### parishes -/
theorem sumOf_eq {c : County} {t : Int} (ok : CountyOk c) {n : Str} {s : Int} (h : (n, s) ∈ sumsH c t) : sumOf c t n = s := by
  have nd : ((sumsH c t).map (·.1)).Nodup := by rw [sumsH_names]; exact ok.hnd
  have hn : n ∈ (allHouses c).map (·.1) := by rw [← sumsH_names c t]; exact List.mem_map_of_mem h
  obtain ⟨g, hg, e⟩ := List.mem_map.mp hn
  have m := sumOf_mem (t := t) hg
  rw [e] at m
  have := mem_uniq (f := fun x : Str × Int => x.1) nd m h rfl
  exact congrArg Prod.snd this
theorem list_ext {α : Type} {l m : List α} (hl : l.length = m.length) (h : ∀ (i : Nat) x y, l[i]? = some x → m[i]? = some y → x = y) : l = m := by
  refine List.ext_getElem hl fun i h1 h2 => h i _ _ (List.getElem?_eq_getElem h1) (List.getElem?_eq_getElem h2)
theorem parish_sums {c : County} {t : Int} (ok : CountyOk c) {p : Parish} {own : Int} (h : (p, own) ∈ c.zip (sumsP c t)) : p.2.map (fun h => sumOf c t h.1) = sharesOf p own := by
  refine list_ext (by rw [List.length_map, shares_len]) fun i x y hx hy => ?_
  rw [List.getElem?_map] at hx
  cases e : p.2[i]? with
  | none => rw [e] at hx; cases hx
  | some g =>
    rw [e] at hx
    cases hx
    refine sumOf_eq ok ?_
    unfold sumsH
    refine List.mem_flatten.mpr ⟨_, List.mem_map_of_mem h, ?_⟩
    unfold oneParish
    refine List.mem_map.mpr ⟨(g, y), List.mem_iff_getElem?.mpr ⟨i, ?_⟩, rfl⟩
    rw [List.getElem?_zip_eq_some]
    exact ⟨e, hy⟩
theorem zero_of_sum {l : List Int} (h : ∀ x ∈ l, 0 ≤ x) (h0 : l.sum = 0) : ∀ x ∈ l, x = 0 := fun x hx => by
  have h1 := mem_le_sum h x hx
  have h2 := h x hx
  omega
theorem parish_at {c : County} {t : Int} {p : Parish} {own : Int} (h : (p, own) ∈ c.zip (sumsP c t)) : ∃ i : Nat, c[i]? = some p ∧ (sumsP c t)[i]? = some own := by
  obtain ⟨i, hi⟩ := List.mem_iff_getElem?.mp h
  rw [List.getElem?_zip_eq_some] at hi
  exact ⟨i, hi⟩
theorem near_parish {c : County} {t : Int} (ok : CountyOk c) (hp : posC c = true) {p : Parish} {own : Int} (h : (p, own) ∈ c.zip (sumsP c t)) : Near own t (worthSo p) (c.map worthSo).sum := by
  obtain ⟨i, h1, h2⟩ := parish_at h
  exact near_at (worths_pos ok hp) (by rw [List.getElem?_map, h1]; rfl) h2
theorem own_zero {c : County} {t : Int} (ok : CountyOk c) (hp : posC c = true) (ht : 0 ≤ t) {p : Parish} {own : Int} (h : (p, own) ∈ c.zip (sumsP c t)) (h0 : worthSo p = 0) : own = 0 := by
  have n := near_parish ok hp h
  have hS := worths_pos ok hp
  have h1 := sumsP_nn ok hp ht own (List.of_mem_zip h).2
  rw [h0] at n
  have n2 : own * (c.map worthSo).sum - t * 0 < (c.map worthSo).sum := n.2
  rw [Int.mul_zero, Int.sub_zero] at n2
  refine Int.le_antisymm (Int.not_lt.mp fun z => ?_) h1
  have : 1 * (c.map worthSo).sum ≤ own * (c.map worthSo).sum := Int.mul_le_mul_of_nonneg_right z (Int.le_of_lt hS)
  omega
theorem shares_sum {c : County} {t : Int} (ok : CountyOk c) (hp : posC c = true) (ht : 0 ≤ t) {p : Parish} {own : Int} (h : (p, own) ∈ c.zip (sumsP c t)) : (sharesOf p own).sum = own := by
  have hn := worth_nn (ok.all p (List.of_mem_zip h).1).all
  unfold sharesOf
  by_cases e : 0 < worthSo p
  · rw [if_pos e]
    exact K5M.share_sum e
  · rw [if_neg e, own_zero ok hp ht h (by omega)]
    generalize p.2.length = n
    induction n with
    | zero => rfl
    | succ n ih => rw [List.replicate_succ, List.sum_cons, ih]; rfl
theorem near_house {c : County} {t : Int} (ok : CountyOk c) (hp : posC c = true) (ht : 0 ≤ t) {p : Parish} {own : Int} (h : (p, own) ∈ c.zip (sumsP c t)) {g : House} {s : Int} (hg : (g, s) ∈ p.2.zip (sharesOf p own)) : Near s own g.2.1 (max 1 (worthSo p)) := by
  have okp := ok.all p (List.of_mem_zip h).1
  have hn := worth_nn okp.all
  obtain ⟨i, hi⟩ := List.mem_iff_getElem?.mp hg
  rw [List.getElem?_zip_eq_some] at hi
  obtain ⟨h1, h2⟩ := hi
  by_cases e : 0 < worthSo p
  · unfold sharesOf at h2
    rw [if_pos e] at h2
    have := near_at (t := own) (ws := p.2.map (·.2.1)) (i := i) (w := g.2.1) (show 0 < (p.2.map fun h : House => h.2.1).sum from e) (by rw [List.getElem?_map, h1]; rfl) h2
    rw [show max 1 (worthSo p) = worthSo p by omega]
    exact this
  · have e0 : worthSo p = 0 := by omega
    unfold sharesOf at h2
    rw [if_neg e] at h2
    have hs : s = 0 := (List.mem_replicate.mp (List.mem_of_getElem? h2)).2
    have ho := own_zero ok hp ht h e0
    rw [e0, hs, ho]
    unfold Near
    rw [show max (1 : Int) 0 = 1 by decide]
    omega
theorem sumsH_sum {c : County} {t : Int} (ok : CountyOk c) (hp : posC c = true) (ht : 0 ≤ t) : ((sumsH c t).map (·.2)).sum = t := by
  have key : ∀ (l : List (Parish × Int)), (∀ x ∈ l, (sharesOf x.1 x.2).sum = x.2) → (((l.map fun x => oneParish x.1 x.2).flatten).map (·.2)).sum = (l.map (·.2)).sum := by
    intro l
    induction l with
    | nil => intro _; rfl
    | cons a l ih =>
      intro h
      rw [List.map_cons, List.flatten_cons, List.map_append, List.sum_append, one_sums, h a List.mem_cons_self, ih fun x hx => h x (List.mem_cons_of_mem _ hx), List.map_cons, List.sum_cons]
  unfold sumsH
  rw [key _ fun x hx => shares_sum ok hp ht (p := x.1) (own := x.2) hx, zip_snd (sumsP_len c t)]
  exact sumsP_sum ok hp
/-! ### what an appeal moves -/
theorem changed_sum : ∀ (a b : List (Str × Int)), a.length = b.length → ((changedOf a b).map fun r => r.2.2 - r.2.1).sum = (b.map (·.2)).sum - (a.map (·.2)).sum
  | [], [], _ => rfl
  | [], _ :: _, h => by simp at h
  | _ :: _, [], h => by simp at h
  | x :: a, y :: b, h => by
    have ih := changed_sum a b (by simpa using h)
    unfold changedOf at ih ⊢
    rw [List.zip_cons_cons, List.map_cons]
    by_cases e : x.2 ≠ y.2
    · rw [List.filter_cons_of_pos (by exact decide_eq_true e), List.map_cons, List.sum_cons, ih, List.map_cons, List.sum_cons, List.map_cons, List.sum_cons]
      show y.2 - x.2 + _ = _
      omega
    · rw [List.filter_cons_of_neg (by simpa using e), ih, List.map_cons, List.sum_cons, List.map_cons, List.sum_cons]
      have e : x.2 = y.2 := Decidable.not_not.mp e
      omega
theorem appeal_zero {S : Bk} {ppl : List Str} {n : Str} {w : Int} (ok : BkOk ppl S) (h0 : 0 ≤ w) (h1 : w ≤ 9999) (hp : posC (withWorth S.county n w) = true) :
    ((changedOf (sumsH S.county S.total) (sumsH (withWorth S.county n w) S.total)).map fun r => r.2.2 - r.2.1).sum = 0 := by
  rw [changed_sum _ _ (by rw [sumsH_len, sumsH_len, withWorth_houses, List.length_map]), sumsH_sum ok.co ok.pos ok.t0, sumsH_sum (withWorth_ok ok.co h0 h1) hp ok.t0]
  omega
end K5
set_option maxHeartbeats 1000000
namespace K5
open PySem PySem.Spec PyProof.Rows L2
/-! ### an empty dict of tuple keys equals {} -/
def rEqDE : R2 := fun x y H Q => ∃ a b, x = .ref a ∧ y = .ref b ∧ H a = some (.dT []) ∧ H b = some (.dT []) ∧ Q (.bl true) H
theorem dt_nil {X : Cx} {pins : List (Addr × Obj)} {σ : L2.St} {H : Hp} {s : Shared} {a : Addr} (I : Inv X pins σ H s) (h : H a = some (.dT [])) : (a == sysModules) = false ∧ s.heap.DictOf (mixKind X.prog X.w) a [] := by
  obtain ⟨_, hd, xs, rel, o, es, ep, h1, h2, h3, h4, _, _⟩ := dt_of I.hok h
  cases rel
  have e : es = #[] := by
    apply Array.ext'
    rw [h4]
    rfl
  subst e
  exact ⟨hd, o, #[], ep, h1, h2, h3, (fun e he => by simp at he), .nil, List.nodup_nil⟩
theorem op_eqDE {X : Cx} {k : Nat} (hr : Room k X.A) : OpR X (compareOp .Eq) rEqDE := by
  intro pins s σ H x y v u Q I rx ry h
  obtain ⟨a, b, rfl, rfl, ea, eb, q⟩ := h
  obtain rfl : v = Value.ref a := rx
  obtain rfl : u = Value.ref b := ry
  obtain ⟨ya, da⟩ := dt_nil I ea
  obtain ⟨yb, db⟩ := dt_nil I eb
  exact PySem.W.keq_eq (knd := mixKind X.prog X.w) (r := true) ya yb da db hr.units0 (fun _ => .nil) (fin_bl I q (by simp))
/-! ### repr of typed data -/
instance {α β γ δ ε : Type} {A : Rel α} {B : Rel β} {C : Rel γ} {D : Rel δ} {E : Rel ε} [Dat A] [Dat B] [Dat C] [Dat D] [Dat E] : Dat (rT5 A B C D E) where
  enc x := .tuple [Dat.enc A x.1, Dat.enc B x.2.1, Dat.enc C x.2.2.1, Dat.enc D x.2.2.2.1, Dat.enc E x.2.2.2.2]
  ok x := Dat.ok A x.1 ∧ Dat.ok B x.2.1 ∧ Dat.ok C x.2.2.1 ∧ Dat.ok D x.2.2.2.1 ∧ Dat.ok E x.2.2.2.2
  dp h := by
    obtain ⟨a, p, q, r, s, t, rfl, ha, h1, h2, h3, h4, h5⟩ := h
    exact .tup (SqT.of ha) (.cons (Dat.dp h1) (.cons (Dat.dp h2) (.cons (Dat.dp h3) (.cons (Dat.dp h4) (.cons (Dat.dp h5) .nil)))))
  lay x h := by simp only [PyData.canLay0, PyData.canLayAll0, Dat.lay _ h.1, Dat.lay _ h.2.1, Dat.lay _ h.2.2.1, Dat.lay _ h.2.2.2.1, Dat.lay _ h.2.2.2.2, Bool.and_self]
  dep := max (Dat.dep A) (max (Dat.dep B) (max (Dat.dep C) (max (Dat.dep D) (Dat.dep E)))) + 1
  depth x := by
    simp only [PyData.depth, PyData.depthAll]
    have h1 := Dat.depth (A := A) x.1
    have h2 := Dat.depth (A := B) x.2.1
    have h3 := Dat.depth (A := C) x.2.2.1
    have h4 := Dat.depth (A := D) x.2.2.2.1
    have h5 := Dat.depth (A := E) x.2.2.2.2
    omega
  inj x y h := by
    simp only [PyData.eqv, PyData.eqvAll, Bool.and_true, Bool.and_eq_true] at h
    exact Prod.ext (Dat.inj _ _ h.1) (Prod.ext (Dat.inj _ _ h.2.1) (Prod.ext (Dat.inj _ _ h.2.2.1) (Prod.ext (Dat.inj _ _ h.2.2.2.1) (Dat.inj _ _ h.2.2.2.2))))
def rReprL : List V → Hp → VK → Prop := fun vs H Q => ∃ (α : Type) (A : Rel α) (_ : Dat A) (a : Addr) (d : α), vs = [.ref a] ∧ A H (.ref a) d ∧ Dat.ok A d ∧ Dat.dep A ≤ 60 ∧ PyData.showable (Dat.enc A d) = true ∧ (Dat.enc A d).shown.length ≤ sizeLine ∧ Q (.str (Dat.enc A d).shown) H
theorem call_reprL {X : Cx} {k : Nat} (hg : X.A.guards = some []) (hr : Room k X.A) : CallR X (.builtin "repr") rReprL := by
  intro pins s σ H vs us Q I r h
  obtain ⟨α, A, _, a, d, rfl, hA, ok, hd, hs, hz, q⟩ := h
  have e : us = [Value.ref a] := Vals.ref1 r
  subst e
  obtain ⟨as, rd⟩ := Dp.reads I _ _ (Value.ref a) (Dat.dp (K := X.K) hA) rfl
  have hu := hr.units
  have dp := Dat.depth (A := A) d
  exact repr_of_reads' rd hs (PyData.noDict_hsm (PyData.hasDict_of_canLay _ (Dat.lay d ok))) hg (by omega) (fun _ _ e => e) (fun h' u tk hk => ⟨.str _, H, I.kept hk, ⟨u, rfl⟩, q⟩) hz
/-! ### dicts of tuple keys by what they hold -/
abbrev DKey3 := Int × Str × Int
def tK (k : DKey3) : List Key := [Sum.inl k.1, Sum.inr k.2.1, Sum.inl k.2.2]
theorem tK_inj {k j : DKey3} (h : tK k = tK j) : k = j := by
  unfold tK at h
  injection h with h1 h
  injection h with h2 h
  injection h with h3 _
  injection h1 with h1
  injection h2 with h2
  injection h3 with h3
  exact Prod.ext h1 (Prod.ext h2 h3)
theorem valV_dropX {κ : Type} [DecidableEq κ] (k j : κ) : ∀ kvs : List (κ × V), valV (dropK kvs k) j = if j = k then none else valV kvs j
  | [] => by
    show none = _
    split <;> rfl
  | p :: r => by
    have ih := valV_dropX k j r
    unfold dropK at ih ⊢
    by_cases e : p.1 = k
    · rw [List.filter_cons_of_neg (by simpa using e), ih]
      by_cases ej : j = k
      · rw [if_pos ej, if_pos ej]
      · rw [if_neg ej, if_neg ej, valV_neg (p := p) (fun z => ej (z.symm.trans e))]
    · rw [List.filter_cons_of_pos (by simpa using e)]
      by_cases ep : p.1 = j
      · rw [valV_pos ep, if_neg (fun z => e (ep.trans z)), valV_pos ep]
      · rw [valV_neg ep, ih]
        by_cases ej : j = k
        · rw [if_pos ej, if_pos ej]
        · rw [if_neg ej, if_neg ej, valV_neg ep]
/-- the dict at a holds just what M says -/
def IsDb (H : Hp) (a : Addr) (n : Nat) (M : DKey3 → Str × Int → Prop) : Prop := ∃ kvs : List (List Key × V), H a = some (.dT kvs) ∧ kvs.length ≤ n ∧ (∀ k u, valV kvs k = some u → ∃ key v, k = tK key ∧ rP rS rI H u v ∧ M key v) ∧ ∀ key v, M key v → ∃ u, valV kvs (tK key) = some u ∧ rP rS rI H u v
theorem IsDb.mono {H H' : Hp} {a : Addr} {n : Nat} {M : DKey3 → Str × Int → Prop} (s : Same H H') (h : IsDb H a n M) : IsDb H' a n M := by
  obtain ⟨kvs, h1, h2, h3, h4⟩ := h
  exact ⟨kvs, s _ _ h1, h2, fun k u e => let ⟨key, v, f1, f2, f3⟩ := h3 k u e; ⟨key, v, f1, mn s f2, f3⟩, fun key v m => let ⟨u, f1, f2⟩ := h4 key v m; ⟨u, f1, mn s f2⟩⟩
theorem IsDb.imp {H : Hp} {a : Addr} {n : Nat} {M N : DKey3 → Str × Int → Prop} (e : ∀ k v, M k v ↔ N k v) (h : IsDb H a n M) : IsDb H a n N := by
  obtain ⟨kvs, h1, h2, h3, h4⟩ := h
  exact ⟨kvs, h1, h2, fun k u e2 => let ⟨key, v, f1, f2, f3⟩ := h3 k u e2; ⟨key, v, f1, f2, (e _ _).mp f3⟩, fun key v m => h4 key v ((e _ _).mpr m)⟩
theorem upd_tk {H : Hp} {a : Addr} {kvs kvs' : List (List Key × V)} (h : H a = some (.dT kvs)) : Tk H (upd H a (.dT kvs')) := Tk.upd h fun _ z => by cases z
theorem IsDb.put {H : Hp} {a : Addr} {n : Nat} {M : DKey3 → Str × Int → Prop} {kvs : List (List Key × V)} {key : DKey3} {u : V} {v : Str × Int} (h1 : H a = some (.dT kvs)) (h2 : kvs.length ≤ n) (h3 : ∀ k u, valV kvs k = some u → ∃ key v, k = tK key ∧ rP rS rI H u v ∧ M key v)
    (h4 : ∀ key v, M key v → ∃ u, valV kvs (tK key) = some u ∧ rP rS rI H u v) (hu : rP rS rI H u v) (hf : ∀ w, M key w → w = v) : IsDb (upd H a (.dT (putK kvs (tK key) u))) a (n + 1) fun k w => M k w ∨ (k = key ∧ w = v) := by
  have tk := upd_tk (kvs' := putK kvs (tK key) u) h1
  refine ⟨_, upd_same, Nat.le_trans (length_putK kvs _ _) (Nat.succ_le_succ h2), fun k z e => ?_, fun k w m => ?_⟩
  · rw [valV_put] at e
    by_cases ek : k = tK key
    · rw [if_pos ek] at e
      cases e
      exact ⟨key, v, ek, Mon.go tk hu, .inr ⟨rfl, rfl⟩⟩
    · rw [if_neg ek] at e
      obtain ⟨key', v', f1, f2, f3⟩ := h3 k z e
      exact ⟨key', v', f1, Mon.go tk f2, .inl f3⟩
  · by_cases ek : k = key
    · subst ek
      have ew : w = v := by
        rcases m with m | m
        · exact hf w m
        · exact m.2
      subst ew
      exact ⟨u, by rw [valV_put, if_pos rfl], Mon.go tk hu⟩
    · rcases m with m | m
      · obtain ⟨z, f1, f2⟩ := h4 k w m
        exact ⟨z, by rw [valV_put, if_neg (fun e => ek (tK_inj e))]; exact f1, Mon.go tk f2⟩
      · exact absurd m.1 ek
theorem IsDb.pop {H : Hp} {a : Addr} {n : Nat} {M : DKey3 → Str × Int → Prop} {kvs : List (List Key × V)} {key : DKey3} (h1 : H a = some (.dT kvs)) (h2 : kvs.length ≤ n) (h3 : ∀ k u, valV kvs k = some u → ∃ key v, k = tK key ∧ rP rS rI H u v ∧ M key v)
    (h4 : ∀ key v, M key v → ∃ u, valV kvs (tK key) = some u ∧ rP rS rI H u v) : IsDb (upd H a (.dT (dropK kvs (tK key)))) a n fun k w => M k w ∧ k ≠ key := by
  have tk := upd_tk (kvs' := dropK kvs (tK key)) h1
  refine ⟨_, upd_same, Nat.le_trans (List.length_filter_le _ _) h2, fun k z e => ?_, fun k w m => ?_⟩
  · rw [valV_dropX] at e
    by_cases ek : k = tK key
    · rw [if_pos ek] at e
      cases e
    · rw [if_neg ek] at e
      obtain ⟨key', v', f1, f2, f3⟩ := h3 k z e
      exact ⟨key', v', f1, Mon.go tk f2, f3, fun e => ek (by rw [f1, e])⟩
  · obtain ⟨z, f1, f2⟩ := h4 k w m.1
    exact ⟨z, by rw [valV_dropX, if_neg (fun e => m.2 (tK_inj e))]; exact f1, Mon.go tk f2⟩
theorem IsDb.nil {H : Hp} {a : Addr} {n : Nat} {M : DKey3 → Str × Int → Prop} (h : IsDb H a n M) (hM : ∀ k v, ¬ M k v) : H a = some (.dT []) := by
  obtain ⟨kvs, h1, h2, h3, h4⟩ := h
  cases kvs with
  | nil => exact h1
  | cons p r =>
    obtain ⟨key, v, _, _, m⟩ := h3 p.1 p.2 (valV_pos rfl)
    exact absurd m (hM key v)
end K5
set_option maxHeartbeats 1000000
namespace K5
open PySem PySem.Spec PyProof.Rows L2
/-! ### closed years -/
def small (i : Int) : Prop := i.natAbs < 10 ^ 12
structure RowOk (r : Row) : Prop where
  y : small r.1
  k : small r.2.1
  h : NameOk r.2.2.1
  f : small r.2.2.2.1
  p : small r.2.2.2.2
def ShutOk (S : Bk) : Prop := ∀ r ∈ S.shut, RowOk r.2
theorem small_of {i : Int} (h0 : 0 ≤ i) (h1 : i ≤ 1000000000) : small i := by
  unfold small
  have : (10 : Nat) ^ 12 = 1000000000000 := by decide
  omega
theorem half_le {k p : Int} (h0 : 0 ≤ p) : 0 ≤ half k p ∧ half k p ≤ p := by
  unfold half
  split <;> omega
theorem all_ok {ppl : List Str} {S : Bk} (ok : BkOk ppl S) (h : ShutOk S) : ∀ r ∈ S.all, RowOk r.2 := fun r hr => by
  unfold Bk.all at hr
  rcases List.mem_append.mp hr with z | z
  · exact h r z
  · obtain ⟨l, hl, hx⟩ := List.mem_flatten.mp z
    obtain ⟨n, hn, rfl⟩ := List.mem_map.mp hl
    have hn := List.mem_range.mp hn
    have v1 := ok.v1
    have y0 := ok.y0
    have y1 := ok.y1
    obtain ⟨g, hg, i, x, p, e1, e2, rfl, e4, e5⟩ := rows_mem hx
    have okg := ok.co.house g hg
    have okx := okg.all x (List.mem_of_getElem? e1)
    obtain ⟨o0, o1⟩ := sumsH_bd ok.co ok.pos ok.t0 (sumOf_mem (t := S.total) hg)
    have t1 := ok.t1
    have p0 := parts_nn okg o0 p (List.mem_of_getElem? e2)
    have p1 := mem_le_sum (parts_nn okg o0) p (List.mem_of_getElem? e2)
    rw [parts_sum] at p1
    have o1 : sumOf S.county S.total g.1 ≤ S.total := o1
    have hh := half_le (k := (n : Int) + 1) p0
    have l0 := okx.lo
    have l1 := okx.mid
    have l2 := okx.hi
    exact ⟨small_of (by show 0 ≤ S.year; omega) (by show S.year ≤ 1000000000; omega), small_of (by show 0 ≤ (n : Int) + 1; omega) (by show (n : Int) + 1 ≤ 1000000000; omega), okg.nm,
      small_of (by show 0 ≤ x.2.1; omega) (by show x.2.1 ≤ 1000000000; omega), small_of hh.1 (by show half _ p ≤ 1000000000; omega)⟩
def clRows (S : Bk) (z : Str) : List Row := (S.shut.filter fun r => decide (r.1 = z)).map (·.2)
theorem due_closed {ppl : List Str} {S : Bk} (ok : BkOk ppl S) (z : Str) : (dueOf S z).filter (fun r => decide (r.1 < S.year)) = clRows S z := by
  unfold dueOf clRows Bk.all
  rw [List.filter_append, List.map_append, List.filter_append]
  have e1 : (((S.shut.filter fun r => decide (r.1 = z)).map (·.2)).filter fun r : Row => decide (r.1 < S.year)) = (S.shut.filter fun r => decide (r.1 = z)).map (·.2) := by
    refine List.filter_eq_self.mpr fun r hr => ?_
    obtain ⟨x, hx, rfl⟩ := List.mem_map.mp hr
    exact decide_eq_true (ok.old x (List.mem_filter.mp hx).1).1
  have e2 : ((((((List.range S.halves.toNat).map fun i : Nat => S.rows ((i : Int) + 1)).flatten).filter fun r => decide (r.1 = z)).map (·.2)).filter fun r : Row => decide (r.1 < S.year)) = [] := by
    refine List.filter_eq_nil_iff.mpr fun r hr => ?_
    obtain ⟨x, hx, rfl⟩ := List.mem_map.mp hr
    obtain ⟨l, hl, hx2⟩ := List.mem_flatten.mp (List.mem_filter.mp hx).1
    obtain ⟨n, _, rfl⟩ := List.mem_map.mp hl
    have := rows_year hx2
    simp only [decide_eq_true_eq]
    omega
  rw [e1, e2, List.append_nil]
theorem filt_sum {α β : Type} [DecidableEq β] (f : α → β) : ∀ (zs : List β) (l : List α), zs.Nodup → (zs.map fun z => (l.filter fun r => decide (f r = z)).length).sum ≤ l.length
  | [], l, _ => Nat.zero_le _
  | z :: zs, l, nd => by
    rw [List.nodup_cons] at nd
    have ih := filt_sum f zs (l.filter fun r => !decide (f r = z)) nd.2
    have e : (zs.map fun y => (l.filter fun r => decide (f r = y)).length) = zs.map fun y => ((l.filter fun r => !decide (f r = z)).filter fun r => decide (f r = y)).length := by
      refine List.map_congr_left fun y hy => ?_
      rw [List.filter_filter]
      congr 1
      refine List.filter_congr fun r _ => ?_
      by_cases h : f r = y
      · have : f r ≠ z := fun e => nd.1 (by rw [← e, h]; exact hy)
        simp [h, this]
        exact fun e => this (h.trans e)
      · simp [h]
    rw [List.map_cons, List.sum_cons, e]
    have hs : (l.filter fun r => decide (f r = z)).length + (l.filter fun r => !decide (f r = z)).length = l.length := by
      have := List.length_eq_countP_add_countP (fun r => decide (f r = z)) (l := l)
      rw [List.countP_eq_length_filter, List.countP_eq_length_filter] at this
      have e3 : (l.filter fun r => decide ¬ decide (f r = z) = true) = l.filter fun r => !decide (f r = z) := List.filter_congr fun r _ => by simp
      rw [e3] at this
      omega
    omega
abbrev rCl : Rel (List (List Row)) := rLL (rLL rRow)
def clData (ppl : List Str) (S : Bk) : List (List Row) := (ppl ++ (["qqq"] : List Str)).map (clRows S)
def clStr (ppl : List Str) (S : Bk) : Str := (Dat.enc rCl (clData ppl S)).shown
theorem row_dat {r : Row} (h : RowOk r) : Dat.ok rRow r := ⟨True.intro, True.intro, h.h.str, True.intro, True.intro⟩
theorem cl_rows {S : Bk} (h : ShutOk S) {z : Str} : ∀ r ∈ clRows S z, RowOk r := fun r hr => by
  obtain ⟨x, hx, rfl⟩ := List.mem_map.mp hr
  exact h x (List.mem_filter.mp hx).1
theorem cl_dat {ppl : List Str} {S : Bk} (h : ShutOk S) : Dat.ok rCl (clData ppl S) := fun l hl r hr => by
  obtain ⟨z, _, rfl⟩ := List.mem_map.mp hl
  exact row_dat (cl_rows h r hr)
theorem int_showable {i : Int} (h : small i) : PyData.showable (.int i) = true := by
  simp only [PyData.showable, decide_eq_true_eq]
  unfold small at h
  by_cases h0 : i.natAbs = 0
  · rw [h0]; decide
  · exact Nat.lt_trans ((Nat.log2_lt (k := 40) h0).mpr (Nat.lt_of_lt_of_le h (by decide))) (by decide)
theorem row_showable {r : Row} (h : RowOk r) : PyData.showable (Dat.enc rRow r) = true := by
  show PyData.showable (.tuple [.int r.1, .int r.2.1, .str r.2.2.1, .int r.2.2.2.1, .int r.2.2.2.2]) = true
  simp only [PyData.showable, PyData.showableAll] at *
  have h1 := int_showable h.y
  have h2 := int_showable h.k
  have h3 := int_showable h.f
  have h4 := int_showable h.p
  simp only [PyData.showable] at h1 h2 h3 h4
  simp only [h1, h2, h3, h4, Bool.and_self]
theorem show_all {α : Type} {A : Rel α} [Dat A] : ∀ {l : List α}, (∀ x ∈ l, PyData.showable (Dat.enc A x) = true) → PyData.showableAll (l.map (Dat.enc A)) = true
  | [], _ => by simp only [List.map_nil, PyData.showableAll]
  | x :: l, h => by
    simp only [List.map_cons, PyData.showableAll, h x List.mem_cons_self, show_all (l := l) fun y hy => h y (List.mem_cons_of_mem _ hy), Bool.and_self]
theorem cl_showable {ppl : List Str} {S : Bk} (h : ShutOk S) : PyData.showable (Dat.enc rCl (clData ppl S)) = true := by
  show PyData.showable (.list ((clData ppl S).map (Dat.enc (rLL rRow)))) = true
  simp only [PyData.showable]
  refine show_all fun l hl => ?_
  obtain ⟨z, _, rfl⟩ := List.mem_map.mp hl
  show PyData.showable (.list ((clRows S z).map (Dat.enc rRow))) = true
  simp only [PyData.showable]
  exact show_all fun r hr => row_showable (cl_rows h r hr)
theorem text_all {α : Type} {A : Rel α} [Dat A] {w : α → Nat} : ∀ {l : List α}, (∀ x ∈ l, (Dat.enc A x).shown.length ≤ w x) → ((PyData.shownAll (l.map (Dat.enc A))).map (·.length)).sum ≤ (l.map w).sum
  | [], _ => by simp only [List.map_nil, PyData.shownAll]; exact Nat.le_refl _
  | x :: l, h => by
    have h1 := h x List.mem_cons_self
    have h2 := text_all (l := l) fun y hy => h y (List.mem_cons_of_mem _ hy)
    simp only [List.map_cons, PyData.shownAll, List.sum_cons]
    omega
theorem text_list {α : Type} {A : Rel α} [Dat A] {w : α → Nat} {l : List α} (h : ∀ x ∈ l, (Dat.enc A x).shown.length ≤ w x) : (PyData.shown (.list (l.map (Dat.enc A)))).length ≤ (l.map w).sum + 2 * l.length + 3 := by
  simp only [PyData.shown]
  have h1 := listText_len_le (PyData.shownAll (l.map (Dat.enc A)))
  have h2 := text_all h
  have h3 := PyData.shownAll_length (l.map (Dat.enc A))
  rw [List.length_map] at h3
  omega
theorem row_text {r : Row} (h : RowOk r) : (Dat.enc rRow r).shown.length ≤ 200 := by
  have hl := h.h.hi
  have hc : ∀ c ∈ r.2.2.1.cps.toList, c < 16 ^ 8 := fun c hc => by
    have h1 := h.h.all c hc
    have e : ∀ c ∈ letters.cps.toList, c < 16 ^ 8 := by decide +kernel
    exact e c h1
  have e := StrLaws.reprText_len r.2.2.1 hc
  show (PyData.shown (.tuple [.int r.1, .int r.2.1, .str r.2.2.1, .int r.2.2.2.1, .int r.2.2.2.2])).length ≤ 200
  have h0 := tupleText_len_le (PyData.shownAll [.int r.1, .int r.2.1, .str r.2.2.1, .int r.2.2.2.1, .int r.2.2.2.2])
  simp only [PyData.shownAll, List.map_cons, List.map_nil, List.sum_cons, List.sum_nil, List.length_cons, List.length_nil] at h0
  have h1 := PyData.shown_int_le h.y
  have h2 := PyData.shown_int_le h.k
  have h3 := PyData.shown_int_le h.f
  have h4 := PyData.shown_int_le h.p
  have h5 : (PyData.shown (.str r.2.2.1)).length ≤ 10 * r.2.2.1.length + 2 := e
  have e6 : PyData.shown (.tuple [.int r.1, .int r.2.1, .str r.2.2.1, .int r.2.2.2.1, .int r.2.2.2.2]) = tupleText [PyData.shown (.int r.1), PyData.shown (.int r.2.1), PyData.shown (.str r.2.2.1), PyData.shown (.int r.2.2.2.1), PyData.shown (.int r.2.2.2.2)] := by
    simp only [PyData.shown, PyData.shownAll]
  rw [e6]
  omega
theorem sum_const {α : Type} (c : Nat) : ∀ l : List α, (l.map fun _ => c).sum = l.length * c
  | [] => by simp
  | x :: l => by rw [List.map_cons, List.sum_cons, sum_const c l, List.length_cons, Nat.succ_mul]; omega
theorem rows_text {S : Bk} (h : ShutOk S) (z : Str) : (Dat.enc (rLL rRow) (clRows S z)).shown.length ≤ (clRows S z).length * 202 + 3 := by
  have := text_list (A := rRow) (w := fun _ => 200) (l := clRows S z) fun r hr => row_text (cl_rows h r hr)
  rw [sum_const] at this
  have e : (Dat.enc (rLL rRow) (clRows S z)).shown = PyData.shown (.list ((clRows S z).map (Dat.enc rRow))) := rfl
  rw [e]
  omega
theorem sum_lin (f : Str → Nat) : ∀ zs : List Str, (zs.map fun z => f z * 202 + 3).sum = (zs.map f).sum * 202 + zs.length * 3
  | [] => rfl
  | z :: zs => by
    rw [List.map_cons, List.sum_cons, sum_lin f zs, List.map_cons, List.sum_cons, List.length_cons]
    omega
theorem cl_fits {ppl : List Str} {S : Bk} (ok : BkOk ppl S) (h : ShutOk S) (np : (ppl ++ (["qqq"] : List Str)).Nodup) (hl : (ppl ++ (["qqq"] : List Str)).length ≤ 100) : (Dat.enc rCl (clData ppl S)).shown.length ≤ sizeLine := by
  have h1 := text_list (A := rLL rRow) (w := fun l => l.length * 202 + 3) (l := clData ppl S) fun l hl => by
    obtain ⟨z, _, rfl⟩ := List.mem_map.mp hl
    exact rows_text h z
  have h2 := filt_sum (fun r : Str × Row => r.1) (ppl ++ (["qqq"] : List Str)) S.shut np
  have h3 := ok.slen
  have h4 := ok.y1
  have e : (Dat.enc rCl (clData ppl S)).shown = PyData.shown (.list ((clData ppl S).map (Dat.enc (rLL rRow)))) := rfl
  have h6 : (clData ppl S).length = (ppl ++ (["qqq"] : List Str)).length := by unfold clData; rw [List.length_map]
  have h5 : ((clData ppl S).map fun l => l.length * 202 + 3).sum = ((ppl ++ (["qqq"] : List Str)).map fun z => (S.shut.filter fun r => decide (r.1 = z)).length).sum * 202 + (ppl ++ (["qqq"] : List Str)).length * 3 := by
    unfold clData
    rw [List.map_map, ← sum_lin]
    congr 1
    refine List.map_congr_left fun z _ => ?_
    show (clRows S z).length * 202 + 3 = _
    unfold clRows
    rw [List.length_map]
  rw [e, sizeLine_eq]
  omega
theorem step_shut {S S' : Bk} {D : Deed} (h : D.Step S S') : (S'.year = S.year ∧ S'.shut = S.shut) ∨ (S'.year = S.year + 1 ∧ S'.shut = S.all) := by
  cases D with
  | worth n w => obtain ⟨rfl, _⟩ := h; exact .inl ⟨rfl, rfl⟩
  | demand k => obtain ⟨rfl, _⟩ := h; exact .inl ⟨rfl, rfl⟩
  | term p c => cases h; exact .inl ⟨rfl, rfl⟩
  | _ => exact h
theorem step_shutOk {ppl : List Str} {S S' : Bk} {D : Deed} (ok : BkOk ppl S) (hs : ShutOk S) (h : D.Step S S') : ShutOk S' := by
  rcases step_shut h with ⟨_, e⟩ | ⟨_, e⟩
  · intro r hr
    rw [e] at hr
    exact hs r hr
  · intro r hr
    rw [e] at hr
    exact all_ok ok hs r hr
theorem cl_same {ppl : List Str} {S S' : Bk} (h : S'.shut = S.shut) : clStr ppl S' = clStr ppl S := by
  unfold clStr clData clRows
  rw [h]
end K5
set_option maxHeartbeats 1000000
namespace K5
open PySem PySem.Spec PyProof.Rows L2 LamX
abbrev N__law_told : List Str := ["_law_deed_here", "_law_error", "_law_found", "e", "_law_some", "_law_word", "_law_is_so"]
theorem sc__law_told : FnScope N__law_told ["_law_deed_here"] (defScope (top 102)) := ⟨rfl, rfl, rfl, by decide +kernel, rfl, by decide +kernel, by decide +kernel⟩
def tbTold (f c' : Addr) (q : Str) (tl : XK → Hp → VK → Prop) (K : PySem.W.Frag) (W : WX) : TS := fun D σ H => ∃ Ech : XK, (∀ cls d σ' H', Ech cls d H' → W cls d σ' H') ∧
  tDrop (tBM K "list" rAppend (tVar 2) (tCons (fun σZ HZ Q => σZ[0]? = some (some (.ref f)) ∧ HZ c' = some (CodeO c' q) ∧ tl Ech HZ Q) tNil)) D σ H
def TTold2 (C : Addr) : (XK → Hp → VK → Prop) → Hp → VK → Prop := fun tl H Q => ∀ pf H1, Same H H1 → H pf = none → H1 pf = some (.lst []) → ∀ Qk : VK, (∀ v H2, H2 pf = some (.lst []) → Q (.ref pf) (upd H2 pf (.lst [v])) → Qk v H2) →
  tl (fun cls d H2 => cls = .ref C ∧ d = none ∧ ∀ t us H3, Same H2 H3 → H3 t = some (.tup us) → Q (.ref t) H3) H1 Qk
theorem kit_more {K : PySem.W.Frag} {t c : Value} {r : List Value} {b : Option Bool} (h : PySem.W.kitOne K t c = some false) (hr : PySem.W.kitAny K t r = b) : PySem.W.kitAny K t (c :: r) = b := by
  unfold PySem.W.kitAny
  rw [h]
  exact hr
theorem le7 {α : Type} {a b c d e f g : α} : [a, b, c, d, e, f, g].length ≤ 1000000 := by show 7 ≤ 1000000; decide
theorem psLen {X : Cx} {b : List Stmt} {t : TS} (n : Nat) (hn : X.N.length = n) (h : PSs X b t) : PSs X b (fun D σ H => σ.length = n → t D σ H) := ⟨fun pins s σ H D I q => h.run pins s σ H D I (q (I.len.trans hn))⟩
theorem len7 {α : Type} {l : List α} (h : l.length = 7) : ∃ a b c d e f g, l = [a, b, c, d, e, f, g] := by
  match l, h with
  | [a, b, c, d, e, f, g], _ => exact ⟨a, b, c, d, e, f, g, rfl⟩
theorem told_gives {X : Cx} (T : Txt X.w X.K X.mg) {g : Addr} {cdg : Value} {q : Str} : LamX.GivesTo X N__law_told "_law_told" (defScope (top 102)) g cdg (defBody (top 102)) "_law_deed_here" q (TTold2 T.eBadDeed) := by
  intro f c' s H Q tl act hc h
  refine ⟨_, (pss_cons (ps_par (i := 1) (j := 2) rfl sc__law_told.nd rfl rfl (by decide) rfl rfl (pa_cons pe_non (pa_cons (pe_lstS pa_nil) pa_nil)) (by rfl))
  (pss_cons (ps_try_kept (i := 3) (c := .ref T.eRollError) (tb := tbTold f c' q tl X.K) (Wout := fun _ _ _ _ => False) rfl rfl sc__law_told.nd rfl rfl ⟨rfl, rfl, .inl T.g_RollError⟩ LamX.takes0
    (fun W pn xe tk _ => ⟨fun pins s' σ H' D I h' => by
      obtain ⟨Ech, hW, h3⟩ := h'
      exact (pss_one (ps_expr (pe_bm PySem.F.plainAttrs_list PySem.F.slot_list_append PySem.F.type_list_append mt_append (pv 2) (pa_cons (act W pn xe Ech _ _ tk hW) pa_nil)))).run pins s' σ H' D I h3⟩)
    (fun a C oe pn => psLen 7 rfl (pss_one (ps_set (i := 1) sc__law_told.nd rfl (Or.inl rfl) (pv 3)))))
  (pss_cons (ps_if (pt_cmpR op_isN (pv 1) pe_non (nomark _)) (pss_one (ps_ret (pv 2))) pss_nil)
  (pss_cons (ps_set (i := 4) sc__law_told.nd rfl (Or.inl rfl) (pe_lstS (pa_cons (pe_tupS (pa_cons pe_str (pa_cons (pe_callB call_isX (by rfl) T.f_isinstance boot_isinstance (pa_cons (pv 1) (pa_cons (C8.pe_gc (v := V.ref T.eBadDeed) rfl ⟨_, T.g_BadDeed, rfl⟩) pa_nil))) pa_nil))) (pa_cons (pe_tupS (pa_cons pe_str (pa_cons (pe_callB call_isX (by rfl) T.f_isinstance boot_isinstance (pa_cons (pv 1) (pa_cons (C8.pe_gc (v := V.ref T.eBadTerm) rfl ⟨_, T.g_BadTerm, rfl⟩) pa_nil))) pa_nil))) pa_nil))))
  (pss_cons (ps_expr (pe_bm PySem.F.plainAttrs_list PySem.F.slot_list_append PySem.F.type_list_append mt_append (pv 4) (pa_cons (pe_tupS (pa_cons pe_str (pa_cons (pe_callB call_isX (by rfl) T.f_isinstance boot_isinstance (pa_cons (pv 1) (pa_cons (C8.pe_gc (v := V.ref T.eBadName) rfl ⟨_, T.g_BadName, rfl⟩) pa_nil))) pa_nil))) pa_nil)))
  (pss_cons (ps_expr (pe_bm PySem.F.plainAttrs_list PySem.F.slot_list_append PySem.F.type_list_append mt_append (pv 4) (pa_cons (pe_tupS (pa_cons pe_str (pa_cons (pe_callB call_isXT (by rfl) T.f_isinstance boot_isinstance (pa_cons (pv 1) (pa_cons (pe_tupS (pa_cons (C8.pe_gc (v := V.ref T.eBadAppeal) rfl ⟨_, T.g_BadAppeal, rfl⟩) (pa_cons (C8.pe_gc (v := V.ref T.eBadCounty) rfl ⟨_, T.g_BadCounty, rfl⟩) (pa_cons (C8.pe_gc (v := V.ref T.eBadDay) rfl ⟨_, T.g_BadDay, rfl⟩) (pa_cons (C8.pe_gc (v := V.ref T.eBadExcused) rfl ⟨_, T.g_BadExcused, rfl⟩) (pa_cons (C8.pe_gc (v := V.ref T.eBadHalf) rfl ⟨_, T.g_BadHalf, rfl⟩) (pa_cons (C8.pe_gc (v := V.ref T.eBadSum) rfl ⟨_, T.g_BadSum, rfl⟩) (pa_cons (C8.pe_gc (v := V.ref T.eBadWeights) rfl ⟨_, T.g_BadWeights, rfl⟩) pa_nil)))))))) pa_nil))) pa_nil))) pa_nil)))
  (pss_cons (ps_set (i := 4) sc__law_told.nd rfl (Or.inl rfl) (pe_op op_catS (pv 4) (pe_lstS (pa_cons (pe_tupS (pa_cons pe_str (pa_cons (pe_callB call_isX (by rfl) T.f_isinstance boot_isinstance (pa_cons (pv 1) (pa_cons (C8.pe_gc (v := V.ref T.eBadPaper) rfl ⟨_, T.g_BadPaper, rfl⟩) pa_nil))) pa_nil))) (pa_cons (pe_tupS (pa_cons pe_str (pa_cons (pe_not (pe_callB call_isX (by rfl) T.f_isinstance boot_isinstance (pa_cons (pv 1) (pa_cons (pe_bltn (v := .ty "ValueError") (by rfl) T.f_ValueError (by decide +kernel) rfl) pa_nil)))) pa_nil))) pa_nil)))))
  (pss_cons (ps_setLcS (i := 2) (own := [("_law_word", 5), ("_law_is_so", 6)]) rfl sc__law_told.nd rfl rfl (sw_true rfl rfl rfl (by decide +kernel)) (pi_list (pv 4)) (blkOk_by (own := [("_law_word", 5), ("_law_is_so", 6)]) (N := N__law_told) (sc := defScope (top 102)) (by decide +kernel)) (fun _ _ _ _ _ => (pg_tupS (n := 2) rfl (pgs_cons (pg_name (i := 5) sc__law_told.nd rfl (Or.inl rfl)) (pgs_cons (pg_name (i := 6) sc__law_told.nd rfl (Or.inl rfl)) pgs_nil)))) (fun _ _ _ _ _ => (pts_one (pt_val (pv 6)))) (fun _ _ _ _ _ => (pv 5)))
  (pss_cons (ps_if (pt_val (pe_callB call_isX (by rfl) T.f_isinstance boot_isinstance (pa_cons (pv 1) (pa_cons (C8.pe_gc (v := V.ref T.eBadStory) rfl ⟨_, T.g_BadStory, rfl⟩) pa_nil)))) (pss_one ps_never) pss_nil)
  (pss_cons (ps_if (pt_val (pe_callB call_isX (by rfl) T.f_isinstance boot_isinstance (pa_cons (pv 1) (pa_cons (C8.pe_gc (v := V.ref T.eBadText) rfl ⟨_, T.g_BadText, rfl⟩) pa_nil)))) (pss_one ps_never) pss_nil)
  (pss_one (ps_ret (pe_callTy call_tupleS (by rfl) T.f_tuple boot_tuple (pa_cons (pv 2) pa_nil)))))))))))))), ?_⟩
  refine ⟨le0, fun pf H1 hpf s1 h1 => ⟨_, _, rfl, ?_⟩⟩
  refine ⟨fun cls d H2 => cls = .ref T.eBadDeed ∧ d = none ∧ ∀ t us H3, Same H2 H3 → H3 t = some (.tup us) → Q (.ref t) H3, fun cls d σ' H' hE => ?_, ?_⟩
  · obtain ⟨rfl, rfl, hq⟩ := hE
    refine ⟨true, T.m_BadDeed, fun _ => ⟨_, rfl, rfl, fun a ha hlen => ?_⟩, fun z => by cases z⟩
    obtain ⟨x0, x1, x2, x3, x4, x5, x6, e⟩ := len7 (l := σ') (by simpa using hlen)
    subst e
    refine ⟨_, rfl, ?_⟩
    have s2 : Same H' (upd H' a (ExO T.eBadDeed a)) := Same.new ha
    have hx := upd_same (H := H') (a := a) (o := ExO T.eBadDeed a)
    have ec := T.ec_BadDeed
    have own : ∀ c : Addr, ClsV (.ref c) (.ref c) := fun c => .own c
    refine ⟨_, rfl, rfl, false, rfl, iteF ?_⟩
    refine ⟨_, rfl, a, _, _, _, true, rfl, own _, hx, ec, T.o_BadDeed, le2, fun p1 H3 hp1 s3 h3 => ?_⟩
    refine ⟨_, rfl, a, _, _, _, false, rfl, own _, s3 _ _ hx, ec, T.o_BadTerm, le2, fun p2 H4 hp2 s4 h4 => ⟨le2, fun L H5 hL s5 h5 => ?_⟩⟩
    have s35 := s3.trans (s4.trans s5)
    refine ⟨_, rfl, .inl ⟨rfl, _, SqL.of h5⟩, _, rfl, a, _, _, _, false, rfl, own _, s35 _ _ hx, ec, T.o_BadName, le2, fun p3 H6 hp3 s6 h6 => ?_⟩
    refine ⟨L, _, _, rfl, rfl, s6 _ _ h5, line_lt (by show 2 ≤ 1000000; decide), ?_⟩
    have nL : upd H' a (ExO T.eBadDeed a) L = none := none_back (s3.trans s4) hL
    have s7 : Same (upd H' a (ExO T.eBadDeed a)) (upd H6 L (.lst [.ref p1, .ref p2, .ref p3])) := (s35.trans s6).mut nL
    have hL7 := upd_same (H := H6) (a := L) (o := .lst [.ref p1, .ref p2, .ref p3])
    have n1 : p1 ≠ L := ne_of_none (s4 _ _ h3) hL
    have n2 : p2 ≠ L := ne_of_none h4 hL
    have n3 : p3 ≠ L := ne_of h6 (s6 _ _ h5) (by intro z; cases z)
    have g1 : upd H6 L (.lst [.ref p1, .ref p2, .ref p3]) p1 = some (.tup [.str "deed", .bl true]) := by rw [upd_ne n1]; exact s6 _ _ (s5 _ _ (s4 _ _ h3))
    have g2 : upd H6 L (.lst [.ref p1, .ref p2, .ref p3]) p2 = some (.tup [.str "term", .bl false]) := by rw [upd_ne n2]; exact s6 _ _ (s5 _ _ h4)
    have g3 : upd H6 L (.lst [.ref p1, .ref p2, .ref p3]) p3 = some (.tup [.str "name", .bl false]) := by rw [upd_ne n3]; exact h6
    have hx7 := s7 _ _ hx
    refine ⟨_, rfl, .inl ⟨rfl, _, SqL.of hL7⟩, _, rfl, le7, fun tp H8 htp s8 h8 => ?_⟩
    refine ⟨a, _, tp, _, [.ref T.eBadAppeal, .ref T.eBadCounty, .ref T.eBadDay, .ref T.eBadExcused, .ref T.eBadHalf, .ref T.eBadSum, .ref T.eBadWeights], false, rfl, h8, .cons (own _) (.cons (own _) (.cons (own _) (.cons (own _) (.cons (own _) (.cons (own _) (.cons (own _) .nil)))))), s8 _ _ hx7, ec, ?_, le2, fun p4 H9 hp4 s9 h9 => ?_⟩
    · exact kit_more T.o_BadAppeal (kit_more T.o_BadCounty (kit_more T.o_BadDay (kit_more T.o_BadExcused (kit_more T.o_BadHalf (kit_more T.o_BadSum (kit_more T.o_BadWeights rfl))))))
    have s79 := s8.trans s9
    refine ⟨L, _, _, rfl, rfl, s79 _ _ hL7, line_lt (by show 3 ≤ 1000000; decide), ?_⟩
    have n4 : p4 ≠ L := ne_of h9 (s79 _ _ hL7) (by intro z; cases z)
    have sA : Same (upd H' a (ExO T.eBadDeed a)) (upd H9 L (.lst [.ref p1, .ref p2, .ref p3, .ref p4])) := (s7.trans s79).mut nL
    have hLA := upd_same (H := H9) (a := L) (o := .lst [.ref p1, .ref p2, .ref p3, .ref p4])
    have k1 : upd H9 L (.lst [.ref p1, .ref p2, .ref p3, .ref p4]) p1 = some (.tup [.str "deed", .bl true]) := by rw [upd_ne n1]; exact s79 _ _ g1
    have k2 : upd H9 L (.lst [.ref p1, .ref p2, .ref p3, .ref p4]) p2 = some (.tup [.str "term", .bl false]) := by rw [upd_ne n2]; exact s79 _ _ g2
    have k3 : upd H9 L (.lst [.ref p1, .ref p2, .ref p3, .ref p4]) p3 = some (.tup [.str "name", .bl false]) := by rw [upd_ne n3]; exact s79 _ _ g3
    have k4 : upd H9 L (.lst [.ref p1, .ref p2, .ref p3, .ref p4]) p4 = some (.tup [.str "more", .bl false]) := by rw [upd_ne n4]; exact h9
    have hxA := sA _ _ hx
    refine ⟨_, rfl, _, rfl, a, _, _, _, false, rfl, own _, hxA, ec, T.o_BadPaper, le2, fun p5 HB hp5 sB hB => ?_⟩
    refine ⟨_, rfl, a, _, _, _, true, rfl, .ty _, sB _ _ hxA, ec, T.o_ValueError, _, rfl, le2, fun p6 HC hp6 sC hC => ⟨le2, fun L2 HD hL2 sD hD => ?_⟩⟩
    have sAD := sB.trans (sC.trans sD)
    refine ⟨L, L2, _, _, rfl, rfl, sAD _ _ hLA, hD, by show 4 + 2 ≤ 1000000; decide, fun M HE hM sE hE => ?_⟩
    have sAE := sAD.trans sE
    have pr : Paired (rP rS rB HE) [.ref p1, .ref p2, .ref p3, .ref p4, .ref p5, .ref p6] [("deed", true), ("term", false), ("name", false), ("more", false), ("paper", false), ("bare", false)] :=
      .cons ⟨p1, _, _, rfl, sAE _ _ k1, rfl, rfl⟩ (.cons ⟨p2, _, _, rfl, sAE _ _ k2, rfl, rfl⟩ (.cons ⟨p3, _, _, rfl, sAE _ _ k3, rfl, rfl⟩ (.cons ⟨p4, _, _, rfl, sAE _ _ k4, rfl, rfl⟩ (.cons ⟨p5, _, _, rfl, sE _ _ (sD _ _ (sC _ _ hB)), rfl, rfl⟩ (.cons ⟨p6, _, _, rfl, sE _ _ (sD _ _ hC), rfl, rfl⟩ .nil)))))
    refine ⟨_, rfl, M, rfl, ⟨_, SqL.of hE⟩, fun D hD2 => ?_⟩
    refine lcS (A := rP rS rB) (B := rS) (ds := [("deed", true), ("term", false), ("name", false), ("more", false), ("paper", false), ("bare", false)]) src_list (fun x => x.2) (fun x => x.1) hD2 (by show 6 ≤ 1000000; decide) (fun HF sF => okL_mono sF ⟨_, hE, pr⟩) (fun i d x HF hd sF r => ?_) fun acc HF sF hDF pa => ?_
    · obtain ⟨t0, u1, u2, rfl, ht, rfl, rfl⟩ := r
      refine ⟨t0, _, rfl, ht, rfl, _, _, rfl, _, _, rfl, rfl, rfl, ?_⟩
      refine ⟨_, rfl, _, rfl, ?_⟩
      cases hb : d.2 with
      | true => exact iteT ⟨_, rfl, Same.refl _, rfl, rfl⟩
      | false => exact iteF ⟨Same.refl _, rfl⟩

    have hxF := sF _ _ (sAE _ _ hxA)
    refine ⟨_, rfl, a, _, _, _, false, rfl, own _, hxF, ec, T.o_BadStory, _, rfl, iteF ?_⟩
    refine ⟨_, rfl, a, _, _, _, false, rfl, own _, hxF, ec, T.o_BadText, _, rfl, iteF ?_⟩
    refine ⟨_, rfl, D, _, rfl, hDF, fun R HG hR sG hG => ?_⟩
    exact hq R _ HG (s2.trans (sA.trans (sAE.trans (sF.trans sG)))) hG
  · refine ⟨_, rfl, .inl ⟨rfl, _, SqL.of h1⟩, rfl, s1 _ _ hc, h pf H1 s1 hpf h1 _ fun v H2 h2 hQ => ?_⟩
    refine ⟨pf, [], v, rfl, rfl, h2, line_lt (by show 0 ≤ 1000000; decide), ?_⟩
    exact ⟨_, rfl, rfl, true, rfl, iteT ⟨_, rfl, hQ⟩⟩
end K5
set_option maxHeartbeats 1000000
namespace K5
open PySem PySem.Spec PyProof.Rows L2
/-! ### defs that are called where no repr is under way -/
structure FnG (P : Program) (w : World) (K : PySem.W.Frag) (mg : Str → Option Value) (base : Heap) (CX : CXT) (k : Nat) (f : Addr) (fd : FuncData) (ps : List Str) (sp : Sp) : Prop where
  len : ∀ vs H Q E, sp vs H Q E → vs.length = ps.length
  go : ∀ (A : Around), A.guards = some [] → ∀ (outer : List Env) (s : Shared) (H : Hp) (us : List Value) (vs : List V) (Q : VK) (E : XK), Room k A → Env0 P w K mg base A outer s H → BindsTo s fd ⟨us, []⟩ (ps.zip us) → Vals vs us → sp vs H Q E →
    codeAny (model P w) A (.call (.ref f) ⟨us, []⟩) (CR CX outer P w H s Q E) s
structure ClG (P : Program) (w : World) (K : PySem.W.Frag) (mg : Str → Option Value) (base : Heap) (CX : CXT) (k : Nat) (x : Str) (sp : Sp) : Prop where
  ex : ∃ (f : Addr) (fd : FuncData) (ps : List Str), FnG P w K mg base CX k f fd ps sp ∧ mg x = some (.ref f) ∧ PySem.W.keepIn K (.ref f) = true ∧ Binds K fd ps []
section
variable {P : Program} {w : World} {K : PySem.W.Frag} {mg : Str → Option Value} {base : Heap} {CX : CXT} {x : Str} {st : Stmt} {N ps : List Str} {k : Nat} {sp : Sp}
theorem FnP.okG {f : Addr} {fd : FuncData} {q : Str} (F : FnP K x q st f fd) (S : FnScope N ps (defScope st)) (len : ∀ vs H Q E, sp vs H Q E → vs.length = ps.length)
    (hbody : ∀ (f : Addr) (cdv : Value) (A : Around), A.guards = some [] → ∀ (outer : List Env) (s : Shared) (H : Hp) (vs : List V) (Q : VK) (E : XK), Room k (A.deeper (envOfC q (defScope st) s.heap.objs.size f cdv)) → sp vs H Q E →
      ∃ t, PSs (cxOf CX P w K mg base N q (defScope st) f cdv A outer s H E) (defBody st) t ∧ t { nx := fun _ H' => Q .non H', rt := Q } (start N vs) H) : FnG P w K mg base CX (k + 1) f fd ps sp := by
  obtain ⟨oc, od, dV, kV, doc, pm, an, cdv, ct, osl, e, lk, hcd, _, _⟩ := F.ex
  subst e
  exact ⟨len, fun A hg outer s H us vs Q E hr e0 hb r hsp => LamX.run_ofS lk hcd S hr e0 hb r (len _ _ _ _ hsp) fun hr2 => hbody f cdv A hg outer s H vs Q E hr2 hsp⟩
theorem ClG.of (F : DefAt K mg x st) (S : FnScope N ps (defScope st)) (hb : BindH x x st ps) (len : ∀ vs H Q E, sp vs H Q E → vs.length = ps.length)
    (hbody : ∀ (f : Addr) (cdv : Value) (A : Around), A.guards = some [] → ∀ (outer : List Env) (s : Shared) (H : Hp) (vs : List V) (Q : VK) (E : XK), Room k (A.deeper (envOfC x (defScope st) s.heap.objs.size f cdv)) → sp vs H Q E →
      ∃ t, PSs (cxOf CX P w K mg base N x (defScope st) f cdv A outer s H E) (defBody st) t ∧ t { nx := fun _ H' => Q .non H', rt := Q } (start N vs) H) : ClG P w K mg base CX (k + 1) x sp := by
  obtain ⟨f, fd, F, hm⟩ := F
  exact ⟨f, fd, ps, FnP.okG F S len hbody, hm, F.kp, F.bindsN hb⟩
end
section
variable {X : Cx} {CX : CXT} {k : Nat} {x : Str} {sp : Sp} {E : XK} {p pos : Pos} {e : Expr} {es : List Expr} {t : TA}
/-- such a def called -/
theorem pcG (c : ClG X.prog X.w X.K X.mg X.base CX k x sp) (hA : X.A.guards = some []) (hr : Room k X.A) (hx : Passes CX X E) (ha : PA X (e :: es) t) (hg : Gl X x := by rfl) (hdb : (x == ("__debug__" : Str)) = false := by decide)
    (he : starEach (e :: es) X.env = (false, eval e X.env) :: starEach es X.env := by rfl) (hpl : (backTo pos (starEach es X.env)).any (·.1) = false := by rfl) :
    PE X (.Call (.Name x p) (e :: es) [] pos) (tCall sp [] E t) := by
  obtain ⟨f, fd, ps, F, hm, kp, b⟩ := c.ex
  have call : ∀ {pins : List (Addr × Obj)} {σ : L2.St} {H : Hp} {s : Shared} {Q : VK} {us : List Value} {vs : List V}, Inv X pins σ H s → Vals vs us → sp vs H Q E → wpAny (model X.prog X.w) X.A (call (.ref f) us) (EP X pins σ Q) X.xe s := by
    intro pins σ H s Q us vs I rv hsp
    have hb := b s us I.kIn (by rw [List.append_nil, ← rv.length]; exact F.len _ _ _ _ hsp)
    rw [List.append_nil] at hb
    refine wpAny_call (codeAny_mono (F.go X.A hA X.stack s H us vs Q E hr I.env0 hb rv hsp) fun res s' out => ?_)
    match res, out with
    | .error err, out => exact hx pins σ H s err s' I out
    | .ok (.ret u), out => exact I.after out
  refine ⟨fun pins s σ H Q I h => wpAny_Call_Name_kw (ld_glob I hg hm ?_ hdb)⟩
  refine PySem.W.callWith_K (h₀ := X.base) I.ok.mod.kin kp (thn (ha.run pos pins s σ H _ I h) fun us s1 out => ?_) he hpl
  obtain ⟨vs, H1, I1, rv, q⟩ := out
  rw [List.append_nil] at q
  exact ⟨I1.kIn, call I1 rv q⟩
end
end K5
set_option maxHeartbeats 1000000
namespace K5
open PySem PySem.Spec PyProof.Rows L2
theorem IsDb.le {H : Hp} {a : Addr} {n m : Nat} {M : DKey3 → Str × Int → Prop} (hnm : n ≤ m) (h : IsDb H a n M) : IsDb H a m M := by
  obtain ⟨kvs, h1, h2, h3, h4⟩ := h
  exact ⟨kvs, h1, Nat.le_trans h2 hnm, h3, h4⟩
def rowKey (r : Row) : DKey3 := (r.2.1, r.2.2.1, r.2.2.2.1)
theorem due_ent {ppl : List Str} {S : Bk} (ok : BkOk ppl S) {z : Str} {r : Row} (hr : r ∈ dueOf S z) (hy : r.1 = S.year) : Ent S (rowKey r) (z, r.2.2.2.2) := by
  unfold dueOf at hr
  obtain ⟨x, hx, rfl⟩ := List.mem_map.mp hr
  obtain ⟨h1, h2⟩ := List.mem_filter.mp hx
  have e : x.1 = z := of_decide_eq_true h2
  have := row_ent ok h1 hy
  rw [e] at this
  exact this
theorem ent_due {S : Bk} (h2 : S.halves = 2) {key : DKey3} {v : Str × Int} (h : Ent S key v) : ∃ r ∈ dueOf S v.1, r.1 = S.year ∧ rowKey r = key ∧ r.2.2.2.2 = v.2 := by
  refine ⟨(S.year, key.1, key.2.1, key.2.2, v.2), ?_, rfl, rfl, rfl⟩
  unfold dueOf
  exact List.mem_map.mpr ⟨_, List.mem_filter.mpr ⟨ent_row h2 h, decide_eq_true rfl⟩, rfl⟩
theorem ent_ppl {ppl : List Str} {S : Bk} (ok : BkOk ppl S) {key : DKey3} {v : Str × Int} (h : Ent S key v) : v.1 ∈ ppl := by
  obtain ⟨_, g, hg, i, x, p, e1, e2, e3, e4, e5, _⟩ := h
  rw [e5]
  exact ok.hold g hg x (List.mem_of_getElem? e1)
def PplAt (H : Hp) (q : Addr) (ppl : List Str) : Prop := H q = some (.lst (ppl.map V.str)) ∧ ppl.length = 6 ∧ NamesOk ppl
theorem PplAt.mono {H H' : Hp} {q : Addr} {ppl : List Str} (s : Same H H') (h : PplAt H q ppl) : PplAt H' q ppl := ⟨s _ _ h.1, h.2⟩
theorem Ppl.at {H : Hp} {q l : Addr} {ppl : List Str} (h : Ppl H q l ppl) : PplAt H q ppl := ⟨h.at_, h.len, h.ok⟩
/-- a list of lists of rows, none of which is the one at D -/
def rLLn (D : Addr) : Rel (List Row) := fun H v xs => ∃ a vs, v = .ref a ∧ a ≠ D ∧ H a = some (.lst vs) ∧ Paired (rRow H) vs xs
theorem lln_go {D : Addr} {H H1 : Hp} {o : HO} (s : Same H H1) (tk : Tk H (upd H1 D o)) : ∀ {vs : List V} {xs : List (List Row)}, Paired (rLLn D H) vs xs → Paired (rLLn D (upd H1 D o)) vs xs
  | _, _, .nil => .nil
  | _, _, .cons r t => .cons (by
    obtain ⟨a, us, e, ne, h, p⟩ := r
    exact ⟨a, us, e, ne, by rw [upd_ne ne]; exact s _ _ h, mnL tk p⟩) (lln_go s tk t)
def spOwed (CL CB CT : Addr) : Sp := fun vs H Q _ => ∃ p lb S n q ppl, vs = [.ref p, .ref q] ∧ IsLg CL CB CT H p lb S n ∧ BkOk ppl S ∧ S.halves = 2 ∧ PplAt H q ppl ∧ ∀ D H', Same H H' → H D = none → IsDb H' D 300000 (Ent S) → Q (.ref D) H'
def spClosed (CL CB CT : Addr) : Sp := fun vs H Q _ => ∃ p lb S n q ppl, vs = [.ref p, .ref q] ∧ IsLg CL CB CT H p lb S n ∧ BkOk ppl S ∧ ShutOk S ∧ PplAt H q ppl ∧ ∀ H', Same H H' → Q (.str (clStr ppl S)) H'
section
variable {P : Program} {w : World} {K : PySem.W.Frag} {mg : Str → Option Value} {base : Heap}
abbrev N__law_owed : List Str := ["_law_ledger", "_law_people_here", "_law_found", "_law_holder", "_law_year", "_law_which", "_law_house", "_law_first", "_law_pence"]
theorem sc__law_owed : FnScope N__law_owed ["_law_ledger", "_law_people_here"] (defScope (top 104)) := ⟨rfl, rfl, rfl, by decide +kernel, rfl, by decide +kernel, by decide +kernel⟩
theorem c__law_owed (T : Txt w K mg) : Cl P w K mg base CX0 9 "_law_owed" (spOwed T.cLedger T.cBooks T.cTerm) := by
  refine Cl.of T.d__law_owed sc__law_owed (fun _ _ _ _ _ _ us h => by obtain ⟨u0, u1, rfl⟩ := len2 h; rfl) (fun vs H Q E h => by obtain ⟨p, lb, S, n, qq, ppl, rfl, hg, ok, h2, hq, q⟩ := h; rfl) fun f cdv A outer s H vs Q E hr h => ?_
  obtain ⟨p, lb, S, n, qq, ppl, rfl, hg, ok, h2, hq, q⟩ := h
  refine ⟨_, PSs.nox ((pss_cons (ps_set (i := 2) sc__law_owed.nd rfl (Or.inl rfl) pe_dnewT)
  (pss_cons (ps_for PassesOwn.never rfl (pi_list (pe_op op_catS (pv 1) (pe_lstS (pa_cons pe_str pa_nil)))) (pg_name (i := 3) sc__law_owed.nd rfl (Or.inl rfl))
  (pss_one (ps_for PassesOwn.never rfl (pi_list (pm (c_Ledger_due T) (hr.mono (by decide)) pass0 (pv 0) (pa_cons (pv 3) pa_nil))) (pg_tupS (n := 5) rfl (pgs_cons (pg_name (i := 4) sc__law_owed.nd rfl (Or.inl rfl)) (pgs_cons (pg_name (i := 5) sc__law_owed.nd rfl (Or.inl rfl)) (pgs_cons (pg_name (i := 6) sc__law_owed.nd rfl (Or.inl rfl)) (pgs_cons (pg_name (i := 7) sc__law_owed.nd rfl (Or.inl rfl)) (pgs_cons (pg_name (i := 8) sc__law_owed.nd rfl (Or.inl rfl)) pgs_nil))))))
  (pss_one (ps_if (pt_cmpR op_eq (pv 4) (pm0 (c_Ledger_year T) (hr.mono (by decide)) pass0 (pv 0)) (nomark _)) (pss_one (ps_dput (hu_of hr) (pv 2) (pe_tupS (pa_cons (pv 5) (pa_cons (pv 6) (pa_cons (pv 7) pa_nil)))) (pe_tupS (pa_cons (pv 3) (pa_cons (pv 8) pa_nil))) rfl)) pss_nil)))))
  (pss_one (ps_ret (pv 2)))))), ?_⟩
  obtain ⟨hq0, hql, hqn⟩ := hq
  obtain ⟨gdx, gb, gl2, gp⟩ := hg.ins
  refine fun D hD => ?_
  have s0 : Same H (upd H D (.dT [])) := Same.new hD
  have hD0 := upd_same (H := H) (a := D) (o := .dT [])
  generalize upd H D (.dT []) = H0 at *
  refine ⟨_, rfl, le1, fun p1 H1 hp1 s1 h1 => ?_⟩
  refine ⟨qq, p1, _, _, rfl, rfl, s1 _ _ (s0 _ _ hq0), h1, by rw [List.length_map, hql]; decide, fun p2 H2 hp2 s2 h2' => ?_⟩
  have s02 := s0.trans (s1.trans s2)
  have hD1 := s1 _ _ hD0
  have hD2 := s2 _ _ hD1
  have ez : ppl.map V.str ++ [V.str "qqq"] = (ppl ++ (["qqq"] : List Str)).map V.str := by rw [List.map_append]; rfl
  rw [ez] at h2'
  have zl : (ppl ++ (["qqq"] : List Str)).length = 7 := by rw [List.length_append, hql]; rfl
  have zok := (ppl_q hqn).2
  generalize hzs : ppl ++ (["qqq"] : List Str) = zs at *
  have n2D : p2 ≠ D := (ne_of_none hD1 hp2).symm
  refine ⟨p2, rfl, ⟨_, SqL.of h2'⟩, ?_⟩
  refine forS (A := rS) (ds := zs) src_list (Pv := fun i σ H3 => ∃ x3 x4 x5 x6 x7 x8, ∃ M : DKey3 → Str × Int → Prop, σ = [some (.ref p), some (.ref qq), some (.ref D), x3, x4, x5, x6, x7, x8] ∧ Same H H3 ∧ IsDb H3 D (i * 30000) M ∧ H3 p2 = some (.lst (zs.map V.str)) ∧
    (∀ k v, M k v → Ent S k v) ∧ ∀ k v, Ent S k v → v.1 ∈ zs.take i → M k v) ?_ ?_ ?_ ?_
  · exact ⟨_, _, _, _, _, _, fun _ _ => False, rfl, s02, ⟨[], hD2, Nat.le_refl _, (fun k u e => by cases e), fun k v m => m.elim⟩, h2', fun k v m => m.elim, fun k v _ hm => by simp at hm⟩
  · rintro i σ H3 hi ⟨x3, x4, x5, x6, x7, x8, M, rfl, s3, hM, h3, hs, hc⟩
    exact ⟨_, h3, str_pr _⟩
  · rintro i z x σ H3 H4 hz ⟨x3, x4, x5, x6, x7, x8, M, rfl, s3, hM, h3, hs, hc⟩ s4 r
    obtain rfl : x = .str z := r
    have s34 := s3.trans s4
    have nz : NameOk z := zok z (List.mem_of_getElem? hz)
    refine ⟨_, rfl, p, gdx, _, rfl, s34 _ _ gp, rfl, _, rfl, p, lb, S, n, ppl, z, rfl, hg.mono s34, ok, nz, fun p5 us H5 s5 hp5 h5 pu => ?_⟩
    have dl : (dueOf S z).length ≤ 28800 := by
      unfold dueOf
      rw [List.length_map]
      exact Nat.le_trans (List.length_filter_le _ _) ok.alen
    refine ⟨p5, rfl, ⟨_, SqL.of h5⟩, ?_⟩
    have hM5 := (hM.mono s4).mono s5
    have n5D : p5 ≠ D := by
      obtain ⟨kvs, e, _⟩ := hM.mono s4
      exact (ne_of_none e hp5).symm
    refine forS (A := rRow) (ds := dueOf S z) src_list (Pv := fun j σ H6 => ∃ x4 x5 x6 x7 x8, ∃ M' : DKey3 → Str × Int → Prop, σ = [some (.ref p), some (.ref qq), some (.ref D), some (.str z), x4, x5, x6, x7, x8] ∧ Same H H6 ∧ IsDb H6 D (i * 30000 + j) M' ∧ H6 p2 = some (.lst (zs.map V.str)) ∧ OkL rRow p5 (dueOf S z) H6 ∧
      (∀ k v, M' k v → Ent S k v) ∧ (∀ k v, M k v → M' k v) ∧ ∀ r ∈ (dueOf S z).take j, r.1 = S.year → M' (rowKey r) (z, r.2.2.2.2)) ?_ ?_ ?_ ?_
    · exact ⟨_, _, _, _, _, M, rfl, s34.trans s5, hM5, s5 _ _ (s4 _ _ h3), ⟨us, h5, pu⟩, hs, fun k v m => m, fun r hr _ => by simp at hr⟩
    · rintro j σ H6 hj ⟨x4, x5, x6, x7, x8, M', rfl, s6, hM6, h6, o6, hs6, hc6, hr6⟩
      exact o6
    · rintro j r x σ H6 H7 hr ⟨x4, x5, x6, x7, x8, M', rfl, s6, hM6, h6, o6, hs6, hc6, hr6⟩ s7 rr
      obtain ⟨t0, y1, y2, y3, y4, y5, rfl, ht, rfl, rfl, rfl, rfl, rfl⟩ := rr
      have s67 := s6.trans s7
      refine ⟨t0, _, rfl, ht, rfl, _, _, rfl, _, _, rfl, _, _, rfl, _, _, rfl, _, _, rfl, rfl, ?_⟩
      refine ⟨_, rfl, _, rfl, p, gdx, _, rfl, s67 _ _ gp, rfl, p, lb, S, n, rfl, hg.mono s67, rfl, _, rfl, ite2 (fun e => ?_) (fun e => ?_)⟩
      · have e : r.1 = S.year := by
          have := of_decide_eq_true e
          injection this
        have en := due_ent ok (List.mem_of_getElem? hr) e
        refine ⟨_, rfl, _, rfl, le2, fun pv H8 hpv s8 h8 => ⟨_, rfl, _, rfl, _, rfl, _, rfl, le3, fun pk H9 hpk s9 h9 => ?_⟩⟩
        have s79 := s8.trans s9
        obtain ⟨kvs, f1, f2, f3, f4⟩ := (hM6.mono s7).mono s79
        have hin := dl
        have hj := lt_of_get hr
        have hi := lt_of_get hz
        refine ⟨D, _, rfl, DPut.t (k := tK (rowKey r)) f1 h9 (line_lt (by omega)), ?_⟩
        have pt := IsDb.put (key := rowKey r) (v := (z, r.2.2.2.2)) f1 f2 f3 f4 ⟨pv, _, _, rfl, s9 _ _ h8, rfl, rfl⟩ fun w hw => ent_fun ok.co (hs6 _ _ hw) en
        refine ⟨_, _, _, _, _, _, rfl, (s67.trans s79).mut hD, pt, ?_, ?_, fun k v m => ?_, fun k v m => .inl (hc6 k v m), fun r' hr' e' => ?_⟩
        · rw [upd_ne n2D]
          exact s79 _ _ (s7 _ _ h6)
        · obtain ⟨vs, g1, g2⟩ := o6
          exact ⟨vs, by rw [upd_ne n5D]; exact s79 _ _ (s7 _ _ g1), mnL ((s7.trans s79).tk.trans (upd_tk f1)) g2⟩
        · rcases m with m | ⟨rfl, rfl⟩
          · exact hs6 k v m
          · exact en
        · rw [take_more hr] at hr'
          rcases List.mem_append.mp hr' with m | m
          · exact .inl (hr6 r' m e')
          · rw [List.mem_singleton.mp m]
            exact .inr ⟨rfl, rfl⟩
      · refine ⟨_, _, _, _, _, M', rfl, s67, (hM6.mono s7).le (Nat.le_succ _), s7 _ _ h6, okL_mono s7 o6, hs6, hc6, fun r' hr' e' => ?_⟩
        rw [take_more hr] at hr'
        rcases List.mem_append.mp hr' with m | m
        · exact hr6 r' m e'
        · rw [List.mem_singleton.mp m] at e'
          exact absurd (decide_eq_true (congrArg V.int e')) e
    · rintro σ H6 ⟨x4, x5, x6, x7, x8, M', rfl, s6, hM6, h6, o6, hs6, hc6, hr6⟩
      refine ⟨_, _, _, _, _, _, M', rfl, s6, hM6.le (by rw [Nat.succ_mul]; omega), h6, hs6, fun k v en hv => ?_⟩
      rw [take_more hz] at hv
      rcases List.mem_append.mp hv with m | m
      · exact hc6 k v (hc k v en m)
      · have ev := List.mem_singleton.mp m
        obtain ⟨r, g1, g2, g3, g4⟩ := ent_due h2 en
        rw [ev] at g1
        have := hr6 r (by rw [List.take_length]; exact g1) g2
        rw [g3, g4, ← ev] at this
        exact this
  · rintro σ H3 ⟨x3, x4, x5, x6, x7, x8, M, rfl, s3, hM, h3, hs, hc⟩
    refine ⟨_, rfl, q D H3 s3 hD ((hM.le (by rw [zl]; decide)).imp fun k v => ⟨hs k v, fun en => hc k v en ?_⟩)⟩
    rw [List.take_length, ← hzs]
    exact List.mem_append_left _ (ent_ppl ok en)
abbrev N__law_closed : List Str := ["_law_ledger", "_law_people_here", "_law_found", "_law_holder", "_law_row"]
theorem sc__law_closed : FnScope N__law_closed ["_law_ledger", "_law_people_here"] (defScope (top 108)) := ⟨rfl, rfl, rfl, by decide +kernel, rfl, by decide +kernel, by decide +kernel⟩
theorem c__law_closed (T : Txt w K mg) : ClG P w K mg base CX0 9 "_law_closed" (spClosed T.cLedger T.cBooks T.cTerm) := by
  refine ClG.of T.d__law_closed sc__law_closed (fun _ _ _ _ _ _ us h => by obtain ⟨u0, u1, rfl⟩ := len2 h; rfl) (fun vs H Q E h => by obtain ⟨p, lb, S, n, qq, ppl, rfl, hg, ok, hs, hq, q⟩ := h; rfl) fun f cdv A hgA outer s H vs Q E hr h => ?_
  obtain ⟨p, lb, S, n, qq, ppl, rfl, hg, ok, hs, hq, q⟩ := h
  refine ⟨_, PSs.nox ((pss_cons (ps_set (i := 2) sc__law_closed.nd rfl (Or.inl rfl) (pe_lstS pa_nil))
  (pss_cons (ps_for PassesOwn.never rfl (pi_list (pe_op op_catS (pv 1) (pe_lstS (pa_cons pe_str pa_nil)))) (pg_name (i := 3) sc__law_closed.nd rfl (Or.inl rfl))
  (pss_one (ps_expr (pe_bm PySem.F.plainAttrs_list PySem.F.slot_list_append PySem.F.type_list_append mt_append (pv 2) (pa_cons (pe_lcS (own := [("_law_row", 4)]) (by rfl) sc__law_closed.nd (pi_list (pm (c_Ledger_due T) (hr.mono (by decide)) pass0 (pv 0) (pa_cons (pv 3) pa_nil))) (blkOk_by (own := [("_law_row", 4)]) (N := N__law_closed) (sc := defScope (top 108)) (by decide +kernel)) (fun _ _ _ _ _ => (pg_name (i := 4) sc__law_closed.nd rfl (Or.inl rfl))) (fun _ _ _ _ _ => (pts_one (pt_cmpR op_lt (pe_ix ix_tupS (pv 4) pe_int (fun _ _ => rfl)) (pm0 (c_Ledger_year T) (hr.mono (by decide)) pass0 (pv 0)) (nomark _)))) (fun _ _ _ _ _ => (pv 4))) pa_nil)))))
  (pss_one (ps_ret (pe_callB (call_reprL hgA hr) (by rfl) T.f_repr boot_repr (pa_cons (pv 2) pa_nil))))))), ?_⟩
  obtain ⟨hq0, hql, hqn⟩ := hq
  obtain ⟨gdx, gb, gl2, gp⟩ := hg.ins
  refine ⟨le0, fun D H0 hD s0 h0 => ?_⟩
  refine ⟨_, rfl, le1, fun p1 H1 hp1 s1 h1 => ?_⟩
  refine ⟨qq, p1, _, _, rfl, rfl, s1 _ _ (s0 _ _ hq0), h1, by rw [List.length_map, hql]; decide, fun p2 H2 hp2 s2 h2' => ?_⟩
  have s02 := s0.trans (s1.trans s2)
  have hD1 := s1 _ _ h0
  have hD2 := s2 _ _ hD1
  have ez : ppl.map V.str ++ [V.str "qqq"] = (ppl ++ (["qqq"] : List Str)).map V.str := by rw [List.map_append]; rfl
  rw [ez] at h2'
  have zl : (ppl ++ (["qqq"] : List Str)).length = 7 := by rw [List.length_append, hql]; rfl
  have zok := ppl_q hqn
  have n2D : p2 ≠ D := (ne_of_none hD1 hp2).symm
  refine ⟨p2, rfl, ⟨_, SqL.of h2'⟩, ?_⟩
  refine forS (A := rS) (ds := ppl ++ (["qqq"] : List Str)) src_list (Pv := fun i σ H3 => ∃ x3 x4 acc, σ = [some (.ref p), some (.ref qq), some (.ref D), x3, x4] ∧ Same H H3 ∧ H3 D = some (.lst acc) ∧ H3 p2 = some (.lst ((ppl ++ (["qqq"] : List Str)).map V.str)) ∧ Paired (rLLn D H3) acc (((ppl ++ (["qqq"] : List Str)).take i).map (clRows S))) ?_ ?_ ?_ ?_
  · exact ⟨_, _, [], rfl, s02, hD2, h2', .nil⟩
  · rintro i σ H3 hi ⟨x3, x4, acc, rfl, s3, hD3, h3, pr⟩
    exact ⟨_, h3, str_pr _⟩
  · rintro i z x σ H3 H4 hz ⟨x3, x4, acc, rfl, s3, hD3, h3, pr⟩ s4 r
    obtain rfl : x = .str z := r
    have s34 := s3.trans s4
    have hD4 := s4 _ _ hD3
    have nz : NameOk z := zok.2 z (List.mem_of_getElem? hz)
    refine ⟨_, rfl, .inl ⟨rfl, _, SqL.of hD4⟩, ?_⟩
    refine ⟨_, rfl, p, gdx, _, rfl, s34 _ _ gp, rfl, _, rfl, p, lb, S, n, ppl, z, rfl, hg.mono s34, ok, nz, fun p5 us H5 s5 hp5 h5 pu => ?_⟩
    have s35 := s34.trans s5
    refine ⟨p5, rfl, ⟨_, SqL.of h5⟩, fun L hL => ?_⟩
    refine lcS (A := rRow) (B := rRow) (ds := dueOf S z) src_list (fun r => decide (r.1 < S.year)) (fun r => r) hL (due_len ok) (fun H6 s6 => okL_mono s6 ⟨us, h5, pu⟩) (fun j r x H6 hr s6 rr => ?_) fun acc2 H6 s6 hL6 pa => ?_
    · obtain ⟨t0, y1, y2, y3, y4, y5, rfl, ht, rfl, rfl, rfl, rfl, rfl⟩ := rr
      refine ⟨rfl, _, rfl, t0, _, 0, _, rfl, rfl, ht, at0, _, rfl, p, gdx, _, rfl, s6 _ _ (s35 _ _ gp), rfl, p, lb, S, n, rfl, (hg.mono s35).mono s6, _, _, rfl, rfl, _, rfl, ite2 (fun e => ?_) (fun e => ?_)⟩
      · exact ⟨_, rfl, Same.refl _, e, t0, _, _, _, _, _, rfl, ht, rfl, rfl, rfl, rfl, rfl⟩
      · exact ⟨Same.refl _, by simpa using e⟩
    · rw [due_closed ok, List.map_id'] at pa
      have s46 := s5.trans s6
      have hD6 := s46 _ _ hD4
      have nLD : L ≠ D := (ne_of_none (s5 _ _ hD4) hL).symm
      have al : acc.length ≤ 7 := by
        have := pr_len pr
        rw [List.length_map, List.length_take] at this
        omega
      refine ⟨D, acc, _, rfl, rfl, hD6, line_lt (by omega), ?_⟩
      have tk : Tk H3 (upd H6 D (.lst (acc ++ [.ref L]))) := (s4.trans s46).tk.trans (Tk.upd hD6 fun _ z => by cases z)
      refine ⟨_, _, acc ++ [.ref L], rfl, (s3.trans (s4.trans s46)).mut hD, upd_same, by rw [upd_ne n2D]; exact (s4.trans s46) _ _ h3, ?_⟩
      rw [take_more hz, List.map_append]
      refine pr_snoc (lln_go (s4.trans s46) tk pr) ⟨L, acc2, rfl, nLD, by rw [upd_ne nLD]; exact hL6, mnL (Tk.upd hD6 fun _ z => by cases z) pa⟩
  · rintro σ H3 ⟨x3, x4, acc, rfl, s3, hD3, h3, pr⟩
    rw [List.take_length] at pr
    have cd : rCl H3 (.ref D) (clData ppl S) := ⟨D, acc, rfl, hD3, pr_imp pr fun v x ⟨a, vs, e, _, h, pp⟩ => ⟨a, vs, e, h, pp⟩⟩
    exact ⟨_, rfl, List (List Row), rCl, inferInstance, D, clData ppl S, rfl, cd, cl_dat hs, by decide, cl_showable hs, cl_fits ok hs zok.1 (by omega), q _ s3⟩
end
end K5
set_option maxHeartbeats 1000000
namespace K5
open PySem PySem.Spec PyProof.Rows L2
def IsSp (H : Hp) (a : Addr) (S : Bk) : Prop := ∃ kvs, H a = some (.dK kvs) ∧ Paired (rKV (rP rI rI) H) kvs (lostOf S.county S.total S.excused)
theorem lost_nodup {c : County} (ok : CountyOk c) (t : Int) (ex : List Str) : ((lostOf c t ex).map (·.1)).Nodup := by
  unfold lostOf
  have e : (allHouses c).map (fun h => (lostRow c t ex h).1) = (allHouses c).map (·.1) := rfl
  have h := ok.hnd
  rw [← e] at h
  have h2 : (((allHouses c).map (lostRow c t ex)).map (·.1)).Nodup := by rw [List.map_map]; exact h
  exact h2.sublist ((List.filter_sublist (p := fun r : Str × Int × Int => decide (0 < r.2.1 + r.2.2))).map _)
theorem spared_nn {h : House} {own : Int} {ex : List Str} (ok : HouseOk h) (h0 : 0 ≤ own) : 0 ≤ sparedOf h (partsSo h own) ex := by
  unfold sparedOf
  refine sum_nn fun x hx => ?_
  obtain ⟨y, hy, rfl⟩ := List.mem_map.mp hx
  exact parts_nn ok h0 _ (List.of_mem_zip (List.mem_filter.mp hy).1).2
theorem last_nn {h : House} {own : Int} (ok : HouseOk h) (h0 : 0 ≤ own) : 0 ≤ lastI (partsSo h own) := parts_nn ok h0 _ (List.mem_of_getElem? (last_get (parts_len h own)))
theorem IsSp.get {H : Hp} {a : Addr} {S : Bk} {ppl : List Str} (ok : BkOk ppl S) (h : IsSp H a S) {g : House} (hg : g ∈ allHouses S.county) : ∃ kvs, H a = some (.dK kvs) ∧
    ((∃ u, valV kvs (Sum.inr g.1) = some u ∧ rP rI rI H u (lostRow S.county S.total S.excused g).2) ∨ (valV kvs (Sum.inr g.1) = none ∧ (lostRow S.county S.total S.excused g).2 = (0, 0))) := by
  obtain ⟨kvs, h1, h2⟩ := h
  have nd := lost_nodup ok.co S.total S.excused
  refine ⟨kvs, h1, ?_⟩
  obtain ⟨o0, _⟩ := sumsH_bd ok.co ok.pos ok.t0 (sumOf_mem (t := S.total) hg)
  have okg := ok.co.house g hg
  have n1 := last_nn (h := g) okg o0
  have n2 := spared_nn (ex := S.excused) okg o0
  by_cases e : 0 < (lostRow S.county S.total S.excused g).2.1 + (lostRow S.county S.total S.excused g).2.2
  · have hm : lostRow S.county S.total S.excused g ∈ lostOf S.county S.total S.excused := List.mem_filter.mpr ⟨List.mem_map_of_mem hg, decide_eq_true e⟩
    exact .inl (kv_find h2 nd hm)
  · refine .inr ⟨kv_none h2 fun hm => ?_, ?_⟩
    · obtain ⟨x, hx, ex⟩ := List.mem_map.mp hm
      obtain ⟨h3, h4⟩ := List.mem_filter.mp hx
      obtain ⟨g', hg', rfl⟩ := List.mem_map.mp h3
      have : g' = g := mem_uniq ok.co.hnd hg' hg ex
      rw [this] at h4
      exact e (of_decide_eq_true h4)
    · have a1 : 0 ≤ (lostRow S.county S.total S.excused g).2.1 := n1
      have a2 : 0 ≤ (lostRow S.county S.total S.excused g).2.2 := n2
      exact Prod.ext (by show (lostRow S.county S.total S.excused g).2.1 = 0; omega) (by show (lostRow S.county S.total S.excused g).2.2 = 0; omega)
/-- d.pop(k, x), d a dict of tuple keys -/
def tPopT (to : TE) (t : TA) : TE := fun σ H Q => to σ H fun x H1 => (∃ a kvs, x = .ref a ∧ H1 a = some (.dT kvs)) ∧ t σ H1 fun xs H2 => L2.DX.rPopT x xs H2 Q
section
variable {X : Cx} {o e : Expr} {es : List Expr} {to : TE} {t : TA} {apos cpos : Pos}
theorem pe_popT (hu : X.A.units + 1 < cLine) (ho : PE X o to) (ha : PA X (e :: es) t)
    (hbase : attributeBase o "pop" X.env (eval o X.env) = eval o X.env := by rfl)
    (hfew : ((backTo cpos (starEach (e :: es) X.env)).all (fun x => !x.1) && (backToKw cpos (keywordEach [] X.env)).all (fun x => x.1.isSome)
      && decide ((e :: es).length + ([] : List Keyword).length + (if ([] : List Keyword).isEmpty then 0 else 1) < 30)) = true := by rfl)
    (hline : (apos.endLine == cpos.line) = true := by rfl) (hs : starEach (e :: es) X.env = (false, eval e X.env) :: starEach es X.env := by rfl) (hplain : (backTo cpos (starEach es X.env)).any (·.1) = false := by rfl) :
    PE X (.Call (.Attribute o "pop" apos) (e :: es) [] cpos) (tPopT to t) :=
  (pe_bm PySem.F.plainAttrs_dict PySem.F.slot_dict_pop PySem.F.type_dict_pop (L2.DX.mt_popT hu) ho.cl ha hbase hfew hline hs hplain).weak fun σ H Q q => ⟨_, q, fun x H1 ⟨⟨a, kvs, e, h⟩, ht⟩ => ⟨by subst e; exact .inr (.inr (.inl ⟨rfl, .inr ⟨kvs, h⟩⟩)), ht⟩⟩
end
/-- what of a house's keys is gone behind so many holdings -/
def Gone (h : House) (i : Nat) (key : DKey3) : Prop := key.2.1 = h.1 ∧ ∃ (j : Nat) (y : Hold), j < i ∧ h.2.2[j]? = some y ∧ key.2.2 = y.2.1
def owes (ex : List Str) (x : Hold) (p k : Int) : Int := if inE x.1 ex then 0 else half k p
theorem owes_sum (ex : List Str) (x : Hold) (p : Int) : owes ex x p 1 + owes ex x p 2 = paidOf ex (x, p) := by
  unfold owes paidOf
  by_cases e : inE x.1 ex = true
  · rw [if_pos e, if_pos e, if_pos e]; rfl
  · rw [if_neg e, if_neg e, if_neg e]
    unfold half
    rw [if_pos rfl, if_neg (by decide)]
    show p - p / 2 + p / 2 = p
    omega
theorem owes_near (ex : List Str) (x : Hold) (p : Int) : 0 ≤ owes ex x p 1 - owes ex x p 2 ∧ owes ex x p 1 - owes ex x p 2 < 2 := by
  unfold owes
  by_cases e : inE x.1 ex = true
  · rw [if_pos e, if_pos e]; decide
  · rw [if_neg e, if_neg e]
    unfold half
    rw [if_pos rfl, if_neg (by decide)]
    omega
def rowsD (h : House) (own : Int) (ex : List Str) : List (Int × Int × Bool) := (h.2.2.zip (partsSo h own)).map fun z => (paidOf ex z, daysIn z.1, inE z.1.1 ex)
theorem pr2 {α β : Type} {R : α → β → Prop} {l : List α} {x y : β} (h : Paired R l [x, y]) : ∃ u v, l = [u, v] ∧ R u x ∧ R v y := by
  cases h with
  | cons r t =>
    cases t with
    | cons r2 t2 =>
      cases t2
      exact ⟨_, _, rfl, r, r2⟩
theorem filt_none {α : Type} (f : α → α) (l : List α) : (l.filter fun _ => false).map f = [] := by
  rw [List.filter_eq_nil_iff.mpr fun _ _ => Bool.false_ne_true]
  rfl
theorem yes_then {σ : L2.St} {H : Hp} {Q : Bool → Hp → Prop} (h : Q true H) : tYes σ H Q := h
theorem ent_here {S : Bk} (ok : CountyOk S.county) {h : House} (hh : h ∈ allHouses S.county) {i : Nat} {d : Hold} {p : Int} (hd : h.2.2[i]? = some d) (hp : (partsSo h (sumOf S.county S.total h.1))[i]? = some p) {k : Int} {v : Str × Int} (en : Ent S (k, h.1, d.2.1) v) : v = (d.1, owes S.excused d p k) := by
  obtain ⟨_, g, hg, j, x, q, f1, f2, f3, f4, f5, f6, f7⟩ := en
  have e : h = g := mem_uniq ok.hnd hh hg f3
  subst e
  have e : i = j := first_uniq (ok.house h hh) hd f1 f4
  subst e
  rw [hd] at f1
  rw [hp] at f2
  cases f1
  cases f2
  rw [f5]
  unfold owes
  rw [f7]
  rfl
theorem not_here {S : Bk} {h : House} (hh : h ∈ allHouses S.county) {i : Nat} {d : Hold} {p : Int} (p0 : 0 ≤ p) (hd : h.2.2[i]? = some d) (hp : (partsSo h (sumOf S.county S.total h.1))[i]? = some p) {k : Int} (hk : k = 1 ∨ k = 2) (no : ∀ v, ¬ Ent S (k, h.1, d.2.1) v) : owes S.excused d p k = 0 := by
  unfold owes
  by_cases e : inE d.1 S.excused = true
  · rw [if_pos e]
  · rw [if_neg e]
    have h0 := (half_le (k := k) p0).1
    by_cases e2 : 0 < half k p
    · exact absurd ⟨hk, h, hh, i, d, p, hd, hp, rfl, rfl, rfl, e2, by simpa using e⟩ (no (d.1, half k p))
    · omega
theorem gone_not {h : House} (ok : HouseOk h) {i : Nat} {d : Hold} (hd : h.2.2[i]? = some d) (k : Int) : ¬ Gone h i (k, h.1, d.2.1) := fun ⟨_, j, y, hj, hy, e⟩ => by
  have := first_uniq ok hd hy e
  omega
theorem gone_succ {h : House} {i : Nat} {d : Hold} (hd : h.2.2[i]? = some d) (key : DKey3) : Gone h (i + 1) key ↔ Gone h i key ∨ (key.2.1 = h.1 ∧ key.2.2 = d.2.1) := by
  constructor
  · rintro ⟨e1, j, y, hj, hy, e2⟩
    by_cases e : j < i
    · exact .inl ⟨e1, j, y, e, hy, e2⟩
    · have : j = i := by omega
      rw [this, hd] at hy
      cases hy
      exact .inr ⟨e1, e2⟩
  · rintro (⟨e1, j, y, hj, hy, e2⟩ | ⟨e1, e2⟩)
    · exact ⟨e1, j, y, by omega, hy, e2⟩
    · exact ⟨e1, i, d, by omega, hd, e2⟩
theorem IsDb.keep {H H' : Hp} {a : Addr} {n : Nat} {M : DKey3 → Str × Int → Prop} (h : IsDb H a n M) (ha : ∀ kvs, H a = some (.dT kvs) → H' a = some (.dT kvs)) (tk : Tk H H') : IsDb H' a n M := by
  obtain ⟨kvs, h1, h2, h3, h4⟩ := h
  exact ⟨kvs, ha kvs h1, h2, fun k u e => let ⟨key, v, f1, f2, f3⟩ := h3 k u e; ⟨key, v, f1, Mon.go (A := rP rS rI) tk f2, f3⟩, fun key v m => let ⟨u, f1, f2⟩ := h4 key v m; ⟨u, f1, Mon.go (A := rP rS rI) tk f2⟩⟩
theorem IsDb.at {H : Hp} {a : Addr} {n : Nat} {M : DKey3 → Str × Int → Prop} (h : IsDb H a n M) : ∃ kvs, H a = some (.dT kvs) := let ⟨kvs, h1, _⟩ := h; ⟨kvs, h1⟩
def spHouseRight : Sp := fun vs H Q _ => ∃ v a sp e h S ppl n, ∃ M : DKey3 → Str × Int → Prop, vs = [v, .ref a, .ref sp, e] ∧ rHouse H v h ∧ h ∈ allHouses S.county ∧ BkOk ppl S ∧ IsDb H a n M ∧ (∀ key v, key.2.1 = h.1 → (M key v ↔ Ent S key v)) ∧ IsSp H sp S ∧ rTL rS H e S.excused ∧
  ∀ H', Bar a a H H' → IsDb H' a n (fun key v => M key v ∧ key.2.1 ≠ h.1) → Q (.int (sumOf S.county S.total h.1)) H'
section
variable {P : Program} {w : World} {K : PySem.W.Frag} {mg : Str → Option Value} {base : Heap}
abbrev N__law_house_right : List Str := ["_law_house", "_law_debts", "_law_spared", "_law_excused_here", "_law_name", "_law_worth_here", "_law_held", "_law_rows", "_law_days", "_law_holder", "_law_first", "_law_last", "_law_halves", "_law_empty", "_law_exempt", "_law_total", "_law_pence", "_law_many", "_law_is_spared", "_law_which", "_law_one", "_law_row"]
theorem sc__law_house_right : FnScope N__law_house_right ["_law_house", "_law_debts", "_law_spared", "_law_excused_here"] (defScope (top 105)) := ⟨rfl, rfl, rfl, by decide +kernel, rfl, by decide +kernel, by decide +kernel⟩
theorem c__law_house_right (T : Txt w K mg) : Cl P w K mg base CX0 2 "_law_house_right" spHouseRight := by
  refine Cl.of T.d__law_house_right sc__law_house_right (fun _ _ _ _ _ _ us h => by obtain ⟨u0, u1, u2, u3, rfl⟩ := len4 h; rfl) (fun vs H Q E h => by obtain ⟨v, a, sp, e, h, S, ppl, n, M, rfl, rh, hh, ok, hM, hE, hsp, re, q⟩ := h; rfl) fun f cdv A outer s H vs Q E hr h => ?_
  obtain ⟨v, a, sp, e, h, S, ppl, n, M, rfl, rh, hh, ok, hM, hE, hsp, re, q⟩ := h
  refine ⟨_, PSs.nox ((pss_cons (ps_asg (pv 0) (pg_tupS (n := 3) rfl (pgs_cons (pg_name (i := 4) sc__law_house_right.nd rfl (Or.inr rfl)) (pgs_cons (pg_name (i := 5) sc__law_house_right.nd rfl (Or.inl rfl)) (pgs_cons (pg_name (i := 6) sc__law_house_right.nd rfl (Or.inl rfl)) pgs_nil)))))
  (pss_cons (ps_par (i := 7) (j := 8) rfl sc__law_house_right.nd rfl rfl (by decide) rfl rfl (pa_cons (pe_lstS pa_nil) (pa_cons (pe_op op_sub pe_int (pe_callB (cr_sumS rfl) (by rfl) T.f_sum boot_sum (pa_cons (pe_lcS (own := [("_law_holder", 9), ("_law_first", 10), ("_law_last", 11)]) (by rfl) sc__law_house_right.nd (pi_tup (pv 6)) (blkOk_by (own := [("_law_holder", 9), ("_law_first", 10), ("_law_last", 11)]) (N := N__law_house_right) (sc := defScope (top 105)) (by decide +kernel)) (fun _ _ _ _ _ => (pg_tupS (n := 3) rfl (pgs_cons (pg_name (i := 9) sc__law_house_right.nd rfl (Or.inl rfl)) (pgs_cons (pg_name (i := 10) sc__law_house_right.nd rfl (Or.inl rfl)) (pgs_cons (pg_name (i := 11) sc__law_house_right.nd rfl (Or.inl rfl)) pgs_nil))))) (fun _ _ _ _ _ => pts_nil) (fun _ _ _ _ _ => (pe_op op_add (pe_op op_sub (pv 11) (pv 10)) pe_int))) pa_nil))) pa_nil)) (by rfl))
  (L2.PSs.norm (pss_cons (ps_for PassesOwn.never rfl (pi_tup (pv 6)) (pg_tupS (n := 3) rfl (pgs_cons (pg_name (i := 9) sc__law_house_right.nd rfl (Or.inr rfl)) (pgs_cons (pg_name (i := 10) sc__law_house_right.nd rfl (Or.inr rfl)) (pgs_cons (pg_name (i := 11) sc__law_house_right.nd rfl (Or.inl rfl)) pgs_nil))))
  (pss_cons (ps_setLcS (i := 12) (own := [("_law_which", 19)]) rfl sc__law_house_right.nd rfl rfl (sw_true rfl rfl rfl (by decide +kernel)) (pi_tup (pe_tupS (pa_cons pe_int (pa_cons pe_int pa_nil)))) (blkOk_by (own := [("_law_which", 19)]) (N := N__law_house_right) (sc := defScope (top 105)) (by decide +kernel)) (fun _ _ _ _ _ => (pg_name (i := 19) sc__law_house_right.nd rfl (Or.inl rfl))) (fun _ _ _ _ _ => pts_nil) (fun _ _ _ _ _ => (pe_popT (by exact hu_of hr) (pv 1) (pa_cons (pe_tupS (pa_cons (pv 19) (pa_cons (pv 4) (pa_cons (pv 10) pa_nil)))) (pa_cons (pe_tupS (pa_cons (pv 9) (pa_cons pe_int pa_nil))) pa_nil)))))
  (pss_cons (ps_if (PW.pt (pw_or (pt_cmpR (op_neNil hr.units) (pe_lcS (own := [("_law_one", 20)]) (by rfl) sc__law_house_right.nd (pi_list (pv 12)) (blkOk_by (own := [("_law_one", 20)]) (N := N__law_house_right) (sc := defScope (top 105)) (by decide +kernel)) (fun _ _ _ _ _ => (pg_name (i := 20) sc__law_house_right.nd rfl (Or.inl rfl))) (fun _ _ _ _ _ => (pts_one (pt_cmpR op_ne (pe_ix ix_tupS (pv 20) pe_int (fun _ _ => rfl)) (pv 9) (nomark _)))) (fun _ _ _ _ _ => (pv 20))) (pe_lstS pa_nil) (nomark _)) (pw_or1 (pt_not (pt_chain op_le op_lt pe_int (pe_op op_sub (pe_ix ix_tupS (pe_ix ix_listS (pv 12) pe_int (fun _ _ => rfl)) pe_int (fun _ _ => rfl)) (pe_ix ix_tupS (pe_ix ix_listS (pv 12) pe_int (fun _ _ => rfl)) pe_int (fun _ _ => rfl))) pe_int))))) (pss_one (ps_ret pe_non)) pss_nil)
  (pss_one (ps_expr (pe_bm PySem.F.plainAttrs_list PySem.F.slot_list_append PySem.F.type_list_append mt_append (pv 7) (pa_cons (pe_tupS (pa_cons (pe_op op_add (pe_ix ix_tupS (pe_ix ix_listS (pv 12) pe_int (fun _ _ => rfl)) pe_int (fun _ _ => rfl)) (pe_ix ix_tupS (pe_ix ix_listS (pv 12) pe_int (fun _ _ => rfl)) pe_int (fun _ _ => rfl))) (pa_cons (pe_op op_add (pe_op op_sub (pv 11) (pv 10)) pe_int) (pa_cons (pe_cmpR op_inS (pv 9) (pv 3) rfl) pa_nil)))) pa_nil)))))))
  (L2.PSs.norm (pss_cons (ps_asg (pe_dget2 (hu_of hr) (pv 2) (pv 4) (pe_tupS (pa_cons pe_int (pa_cons pe_int pa_nil))) ⟨rfl, rfl, rfl, rfl⟩) (pg_tupS (n := 2) rfl (pgs_cons (pg_name (i := 13) sc__law_house_right.nd rfl (Or.inl rfl)) (pgs_cons (pg_name (i := 14) sc__law_house_right.nd rfl (Or.inl rfl)) pgs_nil))))
  (pss_cons (ps_set (i := 15) sc__law_house_right.nd rfl (Or.inl rfl) (pe_op op_add (pe_op op_add (pe_callB (cr_sumS rfl) (by rfl) T.f_sum boot_sum (pa_cons (pe_lcS (own := [("_law_row", 21)]) (by rfl) sc__law_house_right.nd (pi_list (pv 7)) (blkOk_by (own := [("_law_row", 21)]) (N := N__law_house_right) (sc := defScope (top 105)) (by decide +kernel)) (fun _ _ _ _ _ => (pg_name (i := 21) sc__law_house_right.nd rfl (Or.inl rfl))) (fun _ _ _ _ _ => pts_nil) (fun _ _ _ _ _ => (pe_ix ix_tupS (pv 21) pe_int (fun _ _ => rfl)))) pa_nil)) (pv 13)) (pv 14)))
  (pss_cons (ps_if (PW.pt (pw_or (pt_cmpR (op_neNil hr.units) (pe_lcS (own := [("_law_row", 21)]) (by rfl) sc__law_house_right.nd (pi_list (pv 7)) (blkOk_by (own := [("_law_row", 21)]) (N := N__law_house_right) (sc := defScope (top 105)) (by decide +kernel)) (fun _ _ _ _ _ => (pg_name (i := 21) sc__law_house_right.nd rfl (Or.inl rfl))) (fun _ _ _ _ _ => (pts_one (PW.pt (pw_and (pt_val (pe_ix ix_tupS (pv 21) pe_int (fun _ _ => rfl))) (pw_and1 (pt_cmpR op_gt (pe_ix ix_tupS (pv 21) pe_int (fun _ _ => rfl)) pe_int (nomark _))))))) (fun _ _ _ _ _ => (pv 21))) (pe_lstS pa_nil) (nomark _)) (pw_or1 (pt_not (pt_val (pc (c__law_near T) (hr.mono (by decide)) pass0 (pa_cons (pv 13) (pa_cons (pv 15) (pa_cons (pv 8) (pa_cons pe_int pa_nil)))))))))) (pss_one (ps_ret pe_non)) pss_nil)
  (pss_cons (ps_for PassesOwn.never rfl (pi_list (pv 7)) (pg_tupS (n := 3) rfl (pgs_cons (pg_name (i := 16) sc__law_house_right.nd rfl (Or.inl rfl)) (pgs_cons (pg_name (i := 17) sc__law_house_right.nd rfl (Or.inl rfl)) (pgs_cons (pg_name (i := 18) sc__law_house_right.nd rfl (Or.inl rfl)) pgs_nil))))
  (pss_one (ps_if (PW.pt (pw_and (pt_not (pt_val (pv 18))) (pw_and1 (pt_not (pt_val (pc (c__law_near T) (hr.mono (by decide)) pass0 (pa_cons (pv 16) (pa_cons (pv 15) (pa_cons (pv 17) (pa_cons pe_int pa_nil)))))))))) (pss_one (ps_ret pe_non)) pss_nil)))
  (pss_one (ps_ret (pv 15))))))))))))), ?_⟩
  obtain ⟨nm, wo, hs⟩ := h
  obtain ⟨hv, v1, v2, v3, rfl, ha, rfl, rfl, b, us, rfl, hb, pu⟩ := rh
  have okh := ok.co.house _ hh
  have hl : hs.length ≤ 12 := okh.len
  have hul : us.length = hs.length := pr_len pu
  refine ⟨_, rfl, hv, _, rfl, ha, rfl, _, _, rfl, _, _, rfl, _, _, rfl, rfl, ?_⟩
  refine ⟨le0, fun R H1 hR s1 h1 => ?_⟩
  refine ⟨_, rfl, b, rfl, ⟨us, SqT.of (s1 _ _ hb)⟩, fun D hD => ?_⟩
  refine lcM (A := rHold) (B := rI) (ds := hs) src_tup daysIn hD (by omega) (fun H2 s2 => okT_mono s2.tk ⟨us, s1 _ _ hb, mnL s1.tk pu⟩) (fun i d x H2 hd s2 r => ?_) fun acc0 H2 s2 hD2 pa => ?_
  · obtain ⟨t0, y1, y2, y3, rfl, ht, rfl, rfl, rfl⟩ := r
    exact ⟨t0, _, rfl, ht, rfl, _, _, rfl, _, _, rfl, _, _, rfl, rfl, rfl, _, rfl, _, rfl, _, _, rfl, rfl, _, _, rfl, rfl, Same.refl _, rfl⟩
  refine ⟨D, acc0, _, rfl, hD2, pa, _, _, rfl, rfl, _, _, rfl, ?_⟩
  have s12 := s1.trans s2
  have ed : (360 : Int) - (hs.map daysIn).sum = emptySo (nm, wo, hs) := rfl
  have h2R := s2 _ _ h1
  refine ⟨[some (.ref hv), some (.ref a), some (.ref sp), some e, some (.str nm), some (.int wo), some (.ref b), some (.ref R), some (.int (emptySo (nm, wo, hs))), none, none, none, none, none, none, none, none, none, none, none, none, none], rfl, ?_⟩
  have hDT : ∀ xs, H a ≠ some (.tup xs) := fun xs z => by
    obtain ⟨kvs, h0⟩ := hM.at
    rw [h0] at z
    cases z
  obtain ⟨o0, o1⟩ := sumsH_bd ok.co ok.pos ok.t0 (sumOf_mem (t := S.total) hh)
  have plen := parts_len (nm, wo, hs) (sumOf S.county S.total nm)
  have pnn := parts_nn (h := (nm, wo, hs)) okh o0
  refine ⟨_, rfl, b, rfl, ⟨us, SqT.of (s12 _ _ hb)⟩, ?_⟩
  refine forS (A := rHold) (ds := hs) src_tup (Pv := fun i σ H3 => ∃ x9 x10 x11 x12 acc, σ = [some (.ref hv), some (.ref a), some (.ref sp), some e, some (.str nm), some (.int wo), some (.ref b), some (.ref R), some (.int (emptySo (nm, wo, hs))), x9, x10, x11, x12, none, none, none, none, none, none, none, none, none] ∧
    Bar a a H H3 ∧ IsDb H3 a n (fun k v => M k v ∧ ¬ Gone (nm, wo, hs) i k) ∧ H3 R = some (.lst acc) ∧ Paired (rT3 rI rI rB H3) acc ((rowsD (nm, wo, hs) (sumOf S.county S.total nm) S.excused).take i)) ?_ ?_ ?_ ?_
  · exact ⟨_, _, _, _, [], rfl, s12.bar, (hM.mono s12).imp fun k v => ⟨fun m => ⟨m, fun ⟨_, j, y, hj, _⟩ => by omega⟩, fun m => m.1⟩, h2R, .nil⟩
  · rintro i σ H3 hi ⟨x9, x10, x11, x12, acc, rfl, x3, hM3, hR3, pr⟩
    have tk := x3.tk hDT hDT
    exact okT_mono tk ⟨us, hb, pu⟩
  · rintro i d x σ H3 H4 hd ⟨x9, x10, x11, x12, acc, rfl, x3, hM3, hR3, pr⟩ s4 r
    obtain ⟨t0, y1, y2, y3, rfl, ht, rfl, rfl, rfl⟩ := r
    refine ⟨t0, _, rfl, ht, rfl, _, _, rfl, _, _, rfl, _, _, rfl, rfl, ?_⟩
    have hi := lt_of_get hd
    obtain ⟨pc, hpc⟩ : ∃ pc, (partsSo (nm, wo, hs) (sumOf S.county S.total nm))[i]? = some pc := ⟨_, List.getElem?_eq_getElem (by rw [plen]; show i < hs.length + 1; omega)⟩
    have pc0 := pnn pc (List.mem_of_getElem? hpc)
    refine ⟨le2, fun pt H5 hpt s5 h5 => ⟨pt, rfl, ⟨_, SqT.of h5⟩, fun L hL => ?_⟩⟩
    have hM5 := (hM3.mono s4).mono s5
    have nptA : pt ≠ a := by
      obtain ⟨kvs, h0⟩ := hM5.at
      exact ne_of h5 h0 (by intro z; cases z)
    have nLa : L ≠ a := by
      obtain ⟨kvs, h0⟩ := hM5.at
      exact (ne_of_none h0 hL).symm
    have hDT5 : ∀ xs, H5 a ≠ some (.tup xs) := fun xs z => by
      obtain ⟨kvs, h0⟩ := hM5.at
      rw [h0] at z
      cases z
    refine lcP (A := rI) (ds := [1, 2]) src_tup (Pv := fun j acc2 H6 => Bar a a H5 H6 ∧ H6 L = some (.lst acc2) ∧ acc2.length ≤ j ∧ IsDb H6 a n (fun k v => (M k v ∧ ¬ Gone (nm, wo, hs) i k) ∧ ∀ k' ∈ ([1, 2] : List Int).take j, k ≠ (k', nm, d.2.1)) ∧ Paired (rP rS rI H6) acc2 ((([1, 2] : List Int).take j).map fun k => (d.1, owes S.excused d pc k))) (by show 2 ≤ 1000000; decide) ?_ ?_ ?_ ?_ ?_
    · refine ⟨(Same.new hL).bar, upd_same, Nat.le_refl _, ?_, .nil⟩
      exact (hM5.mono (Same.new hL)).imp fun k v => ⟨fun m => ⟨m, fun k' hk' => by simp at hk'⟩, fun m => m.1⟩
    · rintro j acc2 H6 ⟨x6, h6, l6, _⟩
      exact ⟨h6, l6⟩
    · rintro j acc2 H6 ⟨x6, h6, l6, _⟩
      exact ⟨_, x6 _ _ nptA nptA h5, .cons rfl (.cons rfl .nil)⟩
    · rintro j k x H6 H7 acc2 hk ⟨x6, h6, l6, hM6, p6⟩ s7 r
      obtain rfl : x = .int k := r
      have fin : ∀ (y : V) (HA : Hp), Bar a a H5 HA → HA L = some (.lst acc2) → IsDb HA a n (fun key w => ((M key w ∧ ¬ Gone (nm, wo, hs) i key) ∧ ∀ k' ∈ ([1, 2] : List Int).take j, key ≠ (k', nm, d.2.1)) ∧ key ≠ (k, nm, d.2.1)) →
          Paired (rP rS rI HA) acc2 ((([1, 2] : List Int).take j).map fun k => (d.1, owes S.excused d pc k)) → rP rS rI HA y (d.1, owes S.excused d pc k) →
          HA L = some (.lst acc2) ∧ Bar a a H5 (upd HA L (.lst (acc2 ++ [y]))) ∧ upd HA L (.lst (acc2 ++ [y])) L = some (.lst (acc2 ++ [y])) ∧ (acc2 ++ [y]).length ≤ j + 1 ∧
          IsDb (upd HA L (.lst (acc2 ++ [y]))) a n (fun k v => (M k v ∧ ¬ Gone (nm, wo, hs) i k) ∧ ∀ k' ∈ ([1, 2] : List Int).take (j + 1), k ≠ (k', nm, d.2.1)) ∧ Paired (rP rS rI (upd HA L (.lst (acc2 ++ [y])))) (acc2 ++ [y]) ((([1, 2] : List Int).take (j + 1)).map fun k => (d.1, owes S.excused d pc k)) := by
        intro y HA xA hA dA pA rA
        have tk : Tk HA (upd HA L (.lst (acc2 ++ [y]))) := Tk.upd hA fun _ z => by cases z
        refine ⟨hA, fun a0 u n1 n2 hu => by rw [upd_ne (ne_of_none hu hL)]; exact xA a0 u n1 n2 hu, upd_same, by rw [List.length_append]; exact Nat.succ_le_succ l6, (dA.keep (fun kvs h => by rw [upd_ne nLa.symm]; exact h) tk).imp fun key w => ?_, ?_⟩
        · rw [take_more hk]
          constructor
          · rintro ⟨⟨m1, m2⟩, m3⟩
            refine ⟨m1, fun k' hk' => ?_⟩
            rcases List.mem_append.mp hk' with z | z
            · exact m2 k' z
            · rw [List.mem_singleton.mp z]; exact m3
          · rintro ⟨m1, m2⟩
            exact ⟨⟨m1, fun k' hk' => m2 k' (List.mem_append_left _ hk')⟩, m2 k (List.mem_append_right _ List.mem_cons_self)⟩
        · rw [take_more hk, List.map_append]
          exact pr_snoc (mnL tk pA) (Mon.go (A := rP rS rI) tk rA)
      obtain ⟨kvs0, g0⟩ := hM6.at
      refine ⟨rfl, yes_then ?_⟩
      refine iteT ⟨_, rfl, ⟨a, kvs0, rfl, s7 _ _ g0⟩, _, rfl, _, rfl, _, rfl, le3, fun pk H8 hpk s8 h8 => ⟨_, rfl, le2, fun pd H9 hpd s9 h9 => ?_⟩⟩
      have s69 := s7.trans (s8.trans s9)
      obtain ⟨kvs, f1, f2, f3, f4⟩ := hM6.mono s69
      have hk12 : k = 1 ∨ k = 2 := by simpa using List.mem_of_getElem? hk
      have en : ∀ v, M (k, nm, d.2.1) v ↔ Ent S (k, nm, d.2.1) v := fun v => hE _ v rfl
      have fresh : ∀ k' ∈ ([1, 2] : List Int).take j, ((k, nm, d.2.1) : DKey3) ≠ (k', nm, d.2.1) := fun k' hk' e => by
        have e : k = k' := congrArg Prod.fst e
        match j, hk with
        | 0, _ => simp at hk'
        | 1, hk =>
          have : k = 2 := (Option.some.inj hk).symm
          have : k' = 1 := by simpa using hk'
          omega
        | j + 2, hk => simp at hk
      have p9 := pr_imp p6 fun v x z => mn (A := rP rS rI) s69 z
      refine ⟨a, kvs, tK (k, nm, d.2.1), pk, .ref pd, rfl, rfl, f1, s9 _ _ h8, fun u hu => ?_, fun hn => ?_⟩
      · obtain ⟨key, v, e1, e2, e3⟩ := f3 _ u hu
        have e1 := tK_inj e1
        subst e1
        have ev := ent_here ok.co hh hd hpc ((en v).mp e3.1.1)
        subst ev
        have tk := upd_tk (kvs' := dropK kvs (tK (k, nm, d.2.1))) f1
        refine fin u _ (fun a0 z n1 n2 hz => by rw [upd_ne n1]; exact s69 _ _ (x6 a0 z n1 n2 hz)) (by rw [upd_ne nLa]; exact s69 _ _ h6) (IsDb.pop (key := (k, nm, d.2.1)) f1 f2 f3 f4) (mnL tk p9) (Mon.go (A := rP rS rI) tk e2)
      · have no : ∀ v, ¬ Ent S (k, nm, d.2.1) v := fun v z => by
          obtain ⟨u, hu, _⟩ := f4 (k, nm, d.2.1) v ⟨⟨(en v).mpr z, gone_not okh hd k⟩, fresh⟩
          rw [hn] at hu
          cases hu
        have ow := not_here hh pc0 hd hpc hk12 no
        refine fin (.ref pd) _ (fun a0 z n1 n2 hz => s69 _ _ (x6 a0 z n1 n2 hz)) (s69 _ _ h6) ((hM6.mono s69).imp fun key w => ⟨fun m => ⟨m, fun e => ?_⟩, fun m => m.1⟩) p9 ⟨pd, _, _, rfl, h9, rfl, by rw [ow]; rfl⟩
        rw [e] at m
        exact no w ((en w).mp m.1.1)
    · rintro acc2 H6 ⟨x6, h6, l6, hM6, p6⟩
      have p6 : Paired (rP rS rI H6) acc2 [(d.1, owes S.excused d pc 1), (d.1, owes S.excused d pc 2)] := p6
      obtain ⟨u1, u2, rfl, ⟨t1, _, _, rfl, ht1, rfl, rfl⟩, ⟨t2, _, _, rfl, ht2, rfl, rfl⟩⟩ := pr2 p6
      refine ⟨_, rfl, L, rfl, ⟨_, SqL.of h6⟩, fun E1 hE1 => ?_⟩
      refine lcS (A := rP rS rI) (B := rP rS rI) (ds := [(d.1, owes S.excused d pc 1), (d.1, owes S.excused d pc 2)]) src_list (fun _ => false) (fun z => z) hE1 (by show 2 ≤ 1000000; decide) (fun H7 s7 => okL_mono s7 ⟨_, h6, p6⟩) (fun j one x H7 hone s7 r => ?_) fun acc3 H7 s7 hE7 pa7 => ?_
      · have e1 : one.1 = d.1 := by
          rcases List.mem_cons.mp (List.mem_of_getElem? hone) with z | z
          · rw [z]
          · rw [List.mem_singleton.mp z]
        obtain ⟨t3, _, _, rfl, ht3, rfl, rfl⟩ := r
        refine ⟨rfl, _, rfl, t3, _, 0, _, rfl, rfl, ht3, at0, _, rfl, rfl, false, ?_, iteF ⟨Same.refl _, rfl⟩⟩
        rw [e1]
        simp
      have pa7 : Paired (rP rS rI H7) acc3 [] := by simpa using pa7
      cases pa7
      refine ⟨le0, fun pe H8 hpe s8 h8 => ⟨Int, rI, inferInstance, E1, pe, [], [], rfl, rfl, s8 _ _ hE7, .nil, (fun z hz => by cases hz), by decide, h8, false, rfl, iteF ?_⟩⟩
      have s68 := s7.trans s8
      have h8L := s68 _ _ h6
      have ht1' := s68 _ _ ht1
      have ht2' := s68 _ _ ht2
      have on := owes_near S.excused d pc
      refine ⟨_, rfl, L, _, 0, _, rfl, rfl, h8L, rfl, t1, _, 1, _, rfl, rfl, ht1', rfl, _, rfl, L, _, 1, _, rfl, rfl, h8L, rfl, t2, _, 1, _, rfl, rfl, ht2', rfl, _, _, rfl, rfl, _, _, rfl, rfl, true, dT on.1, iteT ⟨_, _, rfl, rfl, true, dT on.2, iteF ?_⟩⟩
      have x38 : Bar a a H3 H8 := Bar.trans s4.bar (Bar.trans s5.bar (Bar.trans x6 s68.bar))
      have xA : Bar a a H H8 := Bar.trans x3 x38
      have hDT3 : ∀ xs, H3 a ≠ some (.tup xs) := fun xs z => by
        obtain ⟨kvs, h0⟩ := hM3.at
        rw [h0] at z
        cases z
      have nRa : R ≠ a := by
        obtain ⟨kvs, h0⟩ := hM.at
        exact (ne_of_none h0 hR).symm
      have hR8 := x38 _ _ nRa nRa hR3
      obtain ⟨ea, eus, rfl, hea, peu⟩ := re
      have nea : ea ≠ a := fun z => hDT eus (by rw [← z]; exact hea)
      have hea8 := xA _ _ nea nea hea
      have eeu := pr_str peu
      have al : acc.length ≤ 12 := by
        have := pr_len pr
        rw [List.length_take] at this
        omega
      refine ⟨_, rfl, .inl ⟨rfl, _, SqL.of hR8⟩, _, rfl, L, _, 0, _, rfl, rfl, h8L, rfl, t1, _, 1, _, rfl, rfl, ht1', rfl, _, rfl, L, _, 1, _, rfl, rfl, h8L, rfl, t2, _, 1, _, rfl, rfl, ht2', rfl, _, _, rfl, rfl, _, rfl, _, rfl, _, _, rfl, rfl, _, _, rfl, rfl, _, rfl, _, rfl, ea, eus, rfl, .inr hea8, rfl, by rw [eeu]; exact flat_strs _, le3, fun pw H9 hpw s9 h9 => ?_⟩
      have hR9 := s9 _ _ hR8
      refine ⟨R, acc, _, rfl, rfl, hR9, line_lt (by omega), ?_⟩
      have tkR : Tk H9 (upd H9 R (.lst (acc ++ [.ref pw]))) := Tk.upd hR9 fun _ z => by cases z
      have tk39 := (Bar.trans x38 s9.bar).tk hDT3 hDT3
      have npR : pw ≠ R := ne_of h9 hR9 (by intro z; cases z)
      have hrow : (rowsD (nm, wo, hs) (sumOf S.county S.total nm) S.excused)[i]? = some (paidOf S.excused (d, pc), daysIn d, inE d.1 S.excused) := by
        unfold rowsD
        rw [List.getElem?_map, List.getElem?_zip_eq_some.mpr (show (hs[i]? = some (d, pc).1 ∧ _ = some (d, pc).2) from ⟨hd, hpc⟩)]
        rfl
      refine ⟨_, _, _, _, acc ++ [.ref pw], rfl, fun a0 u n1 n2 hu => by rw [upd_ne (ne_of_none hu hR)]; exact (Bar.trans xA s9.bar) a0 u n1 n2 hu, ?_, upd_same, ?_⟩
      · refine ((hM6.mono (s68.trans s9)).keep (fun kvs h => by rw [upd_ne nRa.symm]; exact h) tkR).imp fun key w => ⟨?_, ?_⟩
        · rintro ⟨⟨m1, m2⟩, m3⟩
          refine ⟨m1, fun g => ?_⟩
          rcases (gone_succ hd key).mp g with g | ⟨g1, g2⟩
          · exact m2 g
          · have en := (hE key w g1).mp m1
            exact m3 key.1 (by rcases en.1 with z | z <;> rw [z] <;> simp) (Prod.ext rfl (Prod.ext g1 g2))
        · rintro ⟨m1, m2⟩
          refine ⟨⟨m1, fun g => m2 ((gone_succ hd key).mpr (.inl g))⟩, fun k' _ e => m2 ((gone_succ hd key).mpr (.inr ?_))⟩
          rw [e]
          exact ⟨rfl, rfl⟩
      · rw [take_more hrow]
        exact pr_snoc (mnL (tk39.trans tkR) pr) ⟨pw, _, _, _, rfl, (upd_ne npR).trans h9, congrArg V.int (owes_sum S.excused d pc), rfl, by rw [eeu]; rfl⟩
  · rintro σ H3 ⟨x9, x10, x11, x12, acc, rfl, x3, hM3, hR3, pr⟩
    obtain ⟨ea, eus, rfl, hea, peu⟩ := re
    have rlen : (rowsD (nm, wo, hs) (sumOf S.county S.total nm) S.excused).length = hs.length := by
      unfold rowsD
      rw [List.length_map, List.length_zip, plen]
      show min hs.length (hs.length + 1) = _
      omega
    rw [List.take_of_length_le (by omega)] at pr
    have al : acc.length ≤ 12 := by
      have := pr_len pr
      omega
    refine ⟨[some (.ref hv), some (.ref a), some (.ref sp), some (.ref ea), some (.str nm), some (.int wo), some (.ref b), some (.ref R), some (.int (emptySo (nm, wo, hs))), x9, x10, x11, x12, none, none, none, none, none, none, none, none, none], rfl, ?_⟩
    have tk3 := x3.tk hDT hDT
    have hsp3 : IsSp H3 sp S := by
      obtain ⟨kvs, h1, h2⟩ := hsp
      have ne : sp ≠ a := by
        obtain ⟨kvs0, h0⟩ := hM.at
        exact ne_of h1 h0 (by intro z; cases z)
      exact ⟨kvs, x3 _ _ ne ne h1, kv_mono tk3 h2⟩
    obtain ⟨kvs, f1, f2⟩ := hsp3.get ok hh
    refine ⟨_, rfl, sp, rfl, .inl ⟨kvs, .inl f1⟩, _, rfl, le2, fun pz H4 hpz s4 h4 => ⟨_, DGet.k (k := Sum.inr nm) (s4 _ _ f1), ?_⟩⟩
    obtain ⟨pq, e1, e2⟩ : ∃ pq, (valV kvs (Sum.inr nm)).getD (.ref pz) = .ref pq ∧ H4 pq = some (.tup [.int (lostRow S.county S.total S.excused (nm, wo, hs)).2.1, .int (lostRow S.county S.total S.excused (nm, wo, hs)).2.2]) := by
      rcases f2 with ⟨u, g1, g2⟩ | ⟨g1, g2⟩
      · obtain ⟨pq, _, _, rfl, hq, rfl, rfl⟩ := g2
        exact ⟨pq, by rw [show valV kvs (Sum.inr nm) = _ from g1]; rfl, s4 _ _ hq⟩
      · exact ⟨pz, by rw [show valV kvs (Sum.inr nm) = _ from g1]; rfl, by rw [g2]; exact h4⟩
    refine ⟨pq, _, e1, e2, rfl, _, _, rfl, _, _, rfl, rfl, ?_⟩
    have hR4 := s4 _ _ hR3
    have pr4 := mnL s4.tk pr
    refine ⟨_, rfl, R, rfl, ⟨_, SqL.of hR4⟩, fun E1 hE1 => ?_⟩
    refine lcM (A := rT3 rI rI rB) (B := rI) (ds := rowsD (nm, wo, hs) (sumOf S.county S.total nm) S.excused) src_list (fun r => r.1) hE1 (by omega) (fun H5 s5 => okL_mono s5 ⟨_, hR4, pr4⟩) (fun i r x H5 hr5 s5 rr => ?_) fun acc5 H5 s5 hE5 pa5 => ?_
    · obtain ⟨t3, _, _, _, rfl, ht3, rfl, _, _⟩ := rr
      exact ⟨rfl, _, rfl, t3, _, 0, _, rfl, rfl, ht3, at0, Same.refl _, rfl⟩
    have tot : ((rowsD (nm, wo, hs) (sumOf S.county S.total nm) S.excused).map fun r => r.1).sum + (lostRow S.county S.total S.excused (nm, wo, hs)).2.1 + (lostRow S.county S.total S.excused (nm, wo, hs)).2.2 = sumOf S.county S.total nm := by
      have := house_total (nm, wo, hs) (sumOf S.county S.total nm) S.excused
      have e : ((rowsD (nm, wo, hs) (sumOf S.county S.total nm) S.excused).map fun r => r.1) = (hs.zip (partsSo (nm, wo, hs) (sumOf S.county S.total nm))).map (paidOf S.excused) := by
        unfold rowsD
        rw [List.map_map]
        rfl
      rw [e]
      exact this
    refine ⟨E1, acc5, _, rfl, hE5, pa5, _, rfl, _, _, rfl, rfl, _, rfl, _, _, rfl, rfl, ?_⟩
    simp only [tot]
    have hR5 := s5 _ _ hR4
    have pr5 := mnL s5.tk pr4
    refine ⟨_, rfl, R, rfl, ⟨_, SqL.of hR5⟩, fun E2 hE2 => ?_⟩
    refine lcS (A := rT3 rI rI rB) (B := rT3 rI rI rB) (ds := rowsD (nm, wo, hs) (sumOf S.county S.total nm) S.excused) src_list (fun _ => false) (fun r => r) hE2 (by omega) (fun H6 s6 => okL_mono s6 ⟨_, hR5, pr5⟩) (fun i r x H6 hr6 s6 rr => ?_) fun acc6 H6 s6 hE6 pa6 => ?_
    · obtain ⟨t3, _, _, _, rfl, ht3, rfl, rfl, rfl⟩ := rr
      obtain ⟨z, hz, rfl⟩ := List.mem_map.mp (List.mem_of_getElem? hr6)
      refine ⟨rfl, _, rfl, t3, _, 2, _, rfl, rfl, ht3, rfl, inE z.1.1 S.excused, rfl, ?_⟩
      cases hb : inE z.1.1 S.excused with
      | true =>
        have pz0 : paidOf S.excused z = 0 := by unfold paidOf; rw [if_pos hb]
        exact iteT ⟨_, rfl, t3, _, 0, _, rfl, rfl, ht3, at0, _, _, rfl, rfl, false, dF (by rw [pz0]; exact Int.lt_irrefl 0), iteF ⟨Same.refl _, rfl⟩⟩
      | false => exact iteF (iteF ⟨Same.refl _, rfl⟩)
    rw [filt_none] at pa6
    have pa6 : Paired (rT3 rI rI rB H6) acc6 [] := pa6
    cases pa6
    refine ⟨le0, fun pe H7 hpe s7 h7 => ⟨Int, rI, inferInstance, E2, pe, [], [], rfl, rfl, s7 _ _ hE6, .nil, (fun z hz => by cases hz), by decide, h7, false, rfl, iteF ?_⟩⟩
    have d0 : ∀ x ∈ hs, 0 ≤ daysIn x := fun x hx => by
      have := (okh.all x hx).mid
      unfold daysIn
      omega
    have em0 := empty_nn (h := (nm, wo, hs)) okh
    have em1 : emptySo (nm, wo, hs) ≤ 360 := by
      have : 0 ≤ (hs.map daysIn).sum := sum_nn fun x hx => by
        obtain ⟨y, hy, rfl⟩ := List.mem_map.mp hx
        exact d0 y hy
      show 360 - (hs.map daysIn).sum ≤ 360
      omega
    have nl : Near (lostRow S.county S.total S.excused (nm, wo, hs)).2.1 (sumOf S.county S.total nm) (emptySo (nm, wo, hs)) 360 := near_last
    refine ⟨_, rfl, _, rfl, _, rfl, _, _, _, _, rfl, by decide, by decide, em0, by omega, true, dT nl, iteF ?_⟩
    have s37 : Same H3 H7 := s4.trans (s5.trans (s6.trans s7))
    have hR7 := s37 _ _ hR3
    have pr7 := mnL s37.tk pr
    refine ⟨_, rfl, R, rfl, ⟨_, SqL.of hR7⟩, ?_⟩
    refine forS (A := rT3 rI rI rB) (ds := rowsD (nm, wo, hs) (sumOf S.county S.total nm) S.excused) src_list (Pv := fun i σ H8 => ∃ x16 x17 x18, σ = [some (.ref hv), some (.ref a), some (.ref sp), some (.ref ea), some (.str nm), some (.int wo), some (.ref b), some (.ref R), some (.int (emptySo (nm, wo, hs))), x9, x10, x11, x12, some (.int (lostRow S.county S.total S.excused (nm, wo, hs)).2.1), some (.int (lostRow S.county S.total S.excused (nm, wo, hs)).2.2), some (.int (sumOf S.county S.total nm)), x16, x17, x18, none, none, none] ∧ Same H7 H8) ?_ ?_ ?_ ?_
    · exact ⟨_, _, _, rfl, Same.refl _⟩
    · rintro i σ H8 hi ⟨x16, x17, x18, rfl, s8⟩
      exact okL_mono s8 ⟨_, hR7, pr7⟩
    · rintro i r x σ H8 H9 hr ⟨x16, x17, x18, rfl, s8⟩ s9 rr
      obtain ⟨t3, _, _, _, rfl, ht3, rfl, rfl, rfl⟩ := rr
      have hr0 := hr
      unfold rowsD at hr0
      rw [List.getElem?_map] at hr0
      cases hz : (hs.zip (partsSo (nm, wo, hs) (sumOf S.county S.total nm)))[i]? with
      | none =>
        rw [show (((nm, wo, hs) : House).2.2.zip (partsSo (nm, wo, hs) (sumOf S.county S.total nm)))[i]? = none from hz] at hr0
        cases hr0
      | some z =>
        rw [show (((nm, wo, hs) : House).2.2.zip (partsSo (nm, wo, hs) (sumOf S.county S.total nm)))[i]? = some z from hz] at hr0
        have er := (Option.some.inj hr0).symm
        rw [List.getElem?_zip_eq_some] at hz
        have np := near_part (h := (nm, wo, hs)) hz.1 hz.2
        have dz := d0 z.1 (List.mem_of_getElem? hz.1)
        have dz2 : daysIn z.1 ≤ 360 := by
          have o := okh.all z.1 (List.mem_of_getElem? hz.1)
          have := o.lo
          have := o.hi
          unfold daysIn
          omega
        refine ⟨t3, _, rfl, ht3, rfl, _, _, rfl, _, _, rfl, _, _, rfl, rfl, ?_⟩
        subst er
        refine ⟨_, rfl, inE z.1.1 S.excused, rfl, ?_⟩
        cases hb : inE z.1.1 S.excused with
        | true => exact iteF (iteF ⟨_, _, _, rfl, s8.trans s9⟩)
        | false =>
          have pz : paidOf S.excused z = z.2 := by unfold paidOf; rw [if_neg (by rw [hb]; decide)]
          refine iteT ⟨_, rfl, _, rfl, _, rfl, _, _, _, _, rfl, by decide, by decide, dz, Int.le_trans dz2 (by decide), true, dT ?_, iteF ⟨_, _, _, rfl, s8.trans s9⟩⟩
          show -360 < paidOf S.excused z * 360 - sumOf S.county S.total nm * daysIn z.1 ∧ paidOf S.excused z * 360 - sumOf S.county S.total nm * daysIn z.1 < 360
          rw [pz]
          exact np
    · rintro σ H8 ⟨x16, x17, x18, rfl, s8⟩
      refine ⟨_, rfl, q H8 (Bar.trans x3 (s37.trans s8).bar) ((hM3.mono (s37.trans s8)).imp fun key w => ⟨fun m => ⟨m.1, fun e => ?_⟩, fun m => ⟨m.1, fun g => m.2 g.1⟩⟩)⟩
      obtain ⟨_, g, hg, j, y, p0, g1, _, g3, g4, _⟩ := (hE key w e).mp m.1
      have : (nm, wo, hs) = g := mem_uniq ok.co.hnd hh hg (e.symm.trans g3)
      subst this
      exact m.2 ⟨e, j, y, lt_of_get g1, g1, g4⟩
end
end K5
set_option maxHeartbeats 1000000
namespace K5
open PySem PySem.Spec PyProof.Rows L2
theorem worths_le {c : County} (ok : CountyOk c) : (c.map worthSo).sum ≤ 599940 := by
  rw [worths_all]
  have := K5M.sum_le (f := fun h : House => h.2.1) (c := 9999) (l := allHouses c) fun h hh => (ok.house h hh).hi
  have hl := ok.len
  exact Int.le_trans this (by omega)
theorem worth_le {p : Parish} (ok : ParishOk p) : worthSo p ≤ 199980 := by
  have := K5M.sum_le (f := fun h : House => h.2.1) (c := 9999) (l := p.2) fun h hh => (ok.all h hh).hi
  have hl := ok.hi
  exact Int.le_trans this (by omega)
/-- the names of the houses that are done -/
def doneN (c : County) (i : Nat) (p : Parish) (j : Nat) : List Str := (allHouses (c.take i) ++ p.2.take j).map (·.1)
theorem split_at {α : Type} : ∀ {l : List α} {i : Nat} {x : α}, l[i]? = some x → l = l.take i ++ x :: l.drop (i + 1)
  | [], i, x, h => by simp at h
  | a :: l, 0, x, h => by
    have e : a = x := Option.some.inj h
    rw [e]
    rfl
  | a :: l, i + 1, x, h => by
    have ih := split_at (l := l) (i := i) (x := x) h
    show a :: l = a :: l.take i ++ x :: l.drop (i + 1)
    rw [List.cons_append, ← ih]
theorem not_done {c : County} (ok : CountyOk c) {i j : Nat} {p : Parish} {h : House} (hp : c[i]? = some p) (hh : p.2[j]? = some h) : h.1 ∉ doneN c i p j := fun hm => by
  have nd := ok.hnd
  have e1 : allHouses c = allHouses (c.take i) ++ (p.2 ++ allHouses (c.drop (i + 1))) := by
    conv => lhs; rw [split_at hp]
    rw [allHouses_app]
    rfl
  rw [e1, split_at hh] at nd
  have e2 : (allHouses (c.take i) ++ (p.2.take j ++ h :: p.2.drop (j + 1) ++ allHouses (c.drop (i + 1)))).map (·.1) = doneN c i p j ++ h.1 :: ((p.2.drop (j + 1) ++ allHouses (c.drop (i + 1))).map (·.1)) := by
    unfold doneN
    simp
  rw [e2] at nd
  exact (List.nodup_append.mp nd).2.2 _ hm _ List.mem_cons_self rfl
theorem done_succ {c : County} {i j : Nat} {p : Parish} {h : House} (hh : p.2[j]? = some h) (n : Str) : n ∈ doneN c i p (j + 1) ↔ n ∈ doneN c i p j ∨ n = h.1 := by
  unfold doneN
  rw [take_more hh, ← List.append_assoc, List.map_append, List.mem_append]
  simp
theorem done_all {c : County} {i : Nat} {p : Parish} (hp : c[i]? = some p) (n : Str) : n ∈ doneN c i p p.2.length ↔ n ∈ (allHouses (c.take (i + 1))).map (·.1) := by
  unfold doneN
  rw [List.take_length, allHouses_snoc hp]
theorem done_none {c : County} {i : Nat} {p : Parish} (n : Str) : n ∈ doneN c i p 0 ↔ n ∈ (allHouses (c.take i)).map (·.1) := by
  unfold doneN
  rw [List.take_zero, List.append_nil]
theorem max_if (w : Int) : (if w > 1 then w else 1) = max 1 w := by
  split <;> omega
theorem flat_ints : ∀ l : List Int, (l.map V.int).all flatV = true
  | [] => rfl
  | a :: l => by rw [List.map_cons, List.all_cons, flat_ints l]; rfl
theorem inV_none : ∀ l : List Int, inV .non (l.map V.int) = false
  | [] => rfl
  | a :: l => by
    show (eqV (.int a) .non || inV .non (l.map V.int)) = false
    rw [inV_none l]
    rfl
def spYear (CL CB CT : Addr) : Sp := fun vs H Q _ => ∃ p lb S n q ppl, vs = [.ref p, .ref q] ∧ IsLg CL CB CT H p lb S n ∧ BkOk ppl S ∧ S.halves = 2 ∧ PplAt H q ppl ∧ ∀ H', Same H H' → Q (.bl true) H'
section
variable {P : Program} {w : World} {K : PySem.W.Frag} {mg : Str → Option Value} {base : Heap}
abbrev N__law_year_right : List Str := ["_law_ledger", "_law_people_here", "_law_county_here", "_law_total", "_law_debts", "_law_spared", "_law_in_all", "_law_found", "_law_parish", "_law_houses", "_law_sums", "_law_house", "_law_own", "_law_row"]
theorem sc__law_year_right : FnScope N__law_year_right ["_law_ledger", "_law_people_here"] (defScope (top 106)) := ⟨rfl, rfl, rfl, by decide +kernel, rfl, by decide +kernel, by decide +kernel⟩
theorem c__law_year_right (T : Txt w K mg) : Cl P w K mg base CX0 10 "_law_year_right" (spYear T.cLedger T.cBooks T.cTerm) := by
  refine Cl.of T.d__law_year_right sc__law_year_right (fun _ _ _ _ _ _ us h => by obtain ⟨u0, u1, rfl⟩ := len2 h; rfl) (fun vs H Q E h => by obtain ⟨p, lb, S, n, qq, ppl, rfl, hg, ok, h2, hq, q⟩ := h; rfl) fun f cdv A outer s H vs Q E hr h => ?_
  obtain ⟨p, lb, S, n, qq, ppl, rfl, hg, ok, h2, hq, q⟩ := h
  refine ⟨_, PSs.nox ((pss_cons (ps_asg (pe_tupS (pa_cons (pm0 (c_Ledger_county T) (hr.mono (by decide)) pass0 (pv 0)) (pa_cons (pm0 (c_Ledger_total T) (hr.mono (by decide)) pass0 (pv 0)) (pa_cons (pc (c__law_owed T) (hr.mono (by decide)) pass0 (pa_cons (pv 0) (pa_cons (pv 1) pa_nil))) pa_nil)))) (pg_tupS (n := 3) rfl (pgs_cons (pg_name (i := 2) sc__law_year_right.nd rfl (Or.inl rfl)) (pgs_cons (pg_name (i := 3) sc__law_year_right.nd rfl (Or.inl rfl)) (pgs_cons (pg_name (i := 4) sc__law_year_right.nd rfl (Or.inr rfl)) pgs_nil)))))
  (pss_cons (ps_set (i := 5) sc__law_year_right.nd rfl (Or.inr rfl) (pe_callTy (call_dictS rfl) (by rfl) T.f_dict boot_dict (pa_cons (pe_lcS (own := [("_law_row", 13)]) (by rfl) sc__law_year_right.nd (pi_tup (pc (c_lost T) (hr.mono (by decide)) pass0 (pa_cons (pv 2) (pa_cons (pv 3) (pa_cons (pm0 (c_Ledger_excused T) (hr.mono (by decide)) pass0 (pv 0)) pa_nil))))) (blkOk_by (own := [("_law_row", 13)]) (N := N__law_year_right) (sc := defScope (top 106)) (by decide +kernel)) (fun _ _ _ _ _ => (pg_name (i := 13) sc__law_year_right.nd rfl (Or.inl rfl))) (fun _ _ _ _ _ => pts_nil) (fun _ _ _ _ _ => (pe_tupS (pa_cons (pe_ix ix_tupS (pv 13) pe_int (fun _ _ => rfl)) (pa_cons (pe_slice sl_tupS (pv 13) (po_some pe_int) po_none) pa_nil))))) pa_nil)))
  (pss_cons (ps_par (i := 6) (j := 7) rfl sc__law_year_right.nd rfl rfl (by decide) rfl rfl (pa_cons (pe_callB (cr_sumS rfl) (by rfl) T.f_sum boot_sum (pa_cons (pe_lcS (own := [("_law_parish", 8), ("_law_houses", 9)]) (by rfl) sc__law_year_right.nd (pi_tup (pv 2)) (blkOk_by (own := [("_law_parish", 8), ("_law_houses", 9)]) (N := N__law_year_right) (sc := defScope (top 106)) (by decide +kernel)) (fun _ _ _ _ _ => (pg_tupS (n := 2) rfl (pgs_cons (pg_name (i := 8) sc__law_year_right.nd rfl (Or.inl rfl)) (pgs_cons (pg_name (i := 9) sc__law_year_right.nd rfl (Or.inl rfl)) pgs_nil)))) (fun _ _ _ _ _ => pts_nil) (fun _ _ _ _ _ => (pc (c__law_worths T) (hr.mono (by decide)) pass0 (pa_cons (pv 9) pa_nil)))) pa_nil)) (pa_cons pe_int pa_nil)) (by rfl))
  (L2.PSs.norm (pss_cons (ps_for PassesOwn.never rfl (pi_tup (pv 2)) (pg_tupS (n := 2) rfl (pgs_cons (pg_name (i := 8) sc__law_year_right.nd rfl (Or.inl rfl)) (pgs_cons (pg_name (i := 9) sc__law_year_right.nd rfl (Or.inl rfl)) pgs_nil)))
  (pss_cons (ps_setLcS (i := 10) (own := [("_law_house", 11)]) rfl sc__law_year_right.nd rfl rfl (sw_true rfl rfl rfl (by decide +kernel)) (pi_tup (pv 9)) (blkOk_by (own := [("_law_house", 11)]) (N := N__law_year_right) (sc := defScope (top 106)) (by decide +kernel)) (fun _ _ _ _ _ => (pg_name (i := 11) sc__law_year_right.nd rfl (Or.inl rfl))) (fun _ _ _ _ _ => pts_nil) (fun _ _ _ _ _ => (pc (c__law_house_right T) (hr.mono (by decide)) pass0 (pa_cons (pv 11) (pa_cons (pv 4) (pa_cons (pv 5) (pa_cons (pm0 (c_Ledger_excused T) (hr.mono (by decide)) pass0 (pv 0)) pa_nil)))))))
  (pss_cons (ps_if (PW.pt (pw_or (pt_cmpR op_inS pe_non (pv 10) rfl) (pw_or1 (pt_not (pt_val (pc (c__law_near T) (hr.mono (by decide)) pass0 (pa_cons (pe_callB (cr_sumS rfl) (by rfl) T.f_sum boot_sum (pa_cons (pv 10) pa_nil)) (pa_cons (pv 3) (pa_cons (pc (c__law_worths T) (hr.mono (by decide)) pass0 (pa_cons (pv 9) pa_nil)) (pa_cons (pv 6) pa_nil)))))))))) (pss_one (ps_ret pe_bl)) pss_nil)
  (pss_cons (ps_for PassesOwn.never rfl (pi_zipX (by rfl) T.f_zip (pa_cons (pv 9) (pa_cons (pv 10) pa_nil))) (pg_tupS (n := 2) rfl (pgs_cons (pg_name (i := 11) sc__law_year_right.nd rfl (Or.inl rfl)) (pgs_cons (pg_name (i := 12) sc__law_year_right.nd rfl (Or.inl rfl)) pgs_nil)))
  (pss_one (ps_if (pt_not (pt_val (pc (c__law_near T) (hr.mono (by decide)) pass0 (pa_cons (pv 12) (pa_cons (pe_callB (cr_sumS rfl) (by rfl) T.f_sum boot_sum (pa_cons (pv 10) pa_nil)) (pa_cons (pe_ix ix_tupS (pv 11) pe_int (fun _ _ => rfl)) (pa_cons (pe_callB (call_max2 rfl) (by rfl) T.f_max boot_max (pa_cons pe_int (pa_cons (pc (c__law_worths T) (hr.mono (by decide)) pass0 (pa_cons (pv 9) pa_nil)) pa_nil))) pa_nil))))))) (pss_one (ps_ret pe_bl)) pss_nil)))
  (pss_one (ps_set (i := 7) sc__law_year_right.nd rfl (Or.inl rfl) (pe_op op_add (pv 7) (pe_callB (cr_sumS rfl) (by rfl) T.f_sum boot_sum (pa_cons (pv 10) pa_nil)))))))))
  (L2.PSs.norm (pss_one (ps_ret (pe_and (pe_cmpR op_eq (pv 7) (pv 3) (nomark _)) (pe_one (pe_cmpR (op_eqDE hr) (pv 4) pe_dnewT (nomark _))))))))))))), ?_⟩
  obtain ⟨gdx, gb, gl2, gp⟩ := hg.ins
  refine ⟨_, rfl, p, gdx, _, rfl, gp, rfl, p, lb, S, n, rfl, hg, fun vc rc => ?_⟩
  refine ⟨_, rfl, p, gdx, _, rfl, gp, rfl, p, lb, S, n, rfl, hg, _, rfl, _, rfl, p, lb, S, n, qq, ppl, rfl, hg, ok, h2, hq, fun D H1 s1 hD hM => ⟨le3, fun p3 H2 hp3 s2 h3 => ?_⟩⟩
  refine ⟨p3, _, rfl, h3, rfl, _, _, rfl, _, _, rfl, _, _, rfl, rfl, ?_⟩
  have s12 := s1.trans s2
  refine ⟨_, rfl, _, rfl, _, rfl, p, gdx, _, rfl, s12 _ _ gp, rfl, p, lb, S, n, rfl, hg.mono s12, fun ve re => ?_⟩
  refine ⟨S.county, S.total, S.excused, vc, ve, rfl, ⟨vc, rfl, mn s12 rc, ok.co, ok.pos, ok.t0, ok.t1⟩, re, ok.ex, fun vl H3 s3 rl => ?_⟩
  obtain ⟨la, lus, rfl, hla, plu⟩ := rl
  have ll : (lostOf S.county S.total S.excused).length ≤ 60 := by
    unfold lostOf
    refine Nat.le_trans (List.length_filter_le _ _) ?_
    rw [List.length_map]
    exact ok.co.len
  refine ⟨la, rfl, ⟨lus, SqT.of hla⟩, fun L hL => ?_⟩
  refine lcM (A := rT3 rS rI rI) (B := rP rS (rP rI rI)) (ds := lostOf S.county S.total S.excused) src_tup (fun r => r) hL (by omega) (fun H4 s4 => okT_mono s4.tk ⟨lus, hla, plu⟩) (fun i r x H4 hr s4 rr => ?_) fun acc H4 s4 hL4 pa => ?_
  · obtain ⟨t, _, _, _, rfl, ht, rfl, rfl, rfl⟩ := rr
    refine ⟨rfl, _, rfl, t, _, 0, _, rfl, rfl, ht, at0, _, rfl, 1, rfl, t, _, rfl, ht, fun ps H5 s5 h5 => ⟨le2, fun pr H6 hpr s6 h6 => ?_⟩⟩
    rw [show (1 : Int) = ((1 : Nat) : Int) from rfl, cut_drop] at h5
    exact ⟨s5.trans s6, pr, _, _, rfl, h6, rfl, ps, _, _, rfl, s6 _ _ h5, rfl, rfl⟩
  rw [List.map_id'] at pa
  refine ⟨Int × Int, rP rI rI, inferInstance, L, acc, lostOf S.county S.total S.excused, rfl, hL4, pa, lost_nodup ok.co _ _, fun sp kvs H5 hsp5 s5 h5 pk => ?_⟩
  have isp : IsSp H5 sp S := ⟨kvs, h5, pk⟩
  obtain ⟨ca, cus, rfl, hca, pcu⟩ := rc
  have s15 : Same H H5 := s12.trans (s3.trans (s4.trans s5))
  have cl8 : S.county.length ≤ 8 := ok.co.hi
  refine ⟨_, rfl, ca, rfl, ⟨cus, SqT.of (s15 _ _ hca)⟩, fun E1 hE1 => ?_⟩
  refine lcM (A := rParish) (B := rI) (ds := S.county) src_tup worthSo hE1 (by omega) (fun H6 s6 => okT_mono (s15.trans s6).tk ⟨cus, hca, pcu⟩) (fun i d x H6 hd s6 r => ?_) fun acc2 H6 s6 hE6 pa2 => ?_
  · have okd := ok.co.all d (List.mem_of_getElem? hd)
    have := okd.hi
    obtain ⟨t, _, v2, rfl, ht, rfl, r2⟩ := r
    exact ⟨t, _, rfl, ht, rfl, _, _, rfl, _, _, rfl, rfl, rfl, _, rfl, v2, d.2, rfl, r2, by omega, fun H7 s7 => ⟨s7, rfl⟩⟩
  refine ⟨E1, acc2, _, rfl, hE6, pa2, _, _, rfl, ?_⟩
  have s16 := s15.trans s6
  refine ⟨[some (.ref p), some (.ref qq), some (.ref ca), some (.int S.total), some (.ref D), some (.ref sp), some (.int (S.county.map worthSo).sum), some (.int 0), none, none, none, none, none, none], rfl, ?_⟩
  have hM6 := hM.mono (s2.trans (s3.trans (s4.trans (s5.trans s6))))
  have isp6 : IsSp H6 sp S := ⟨kvs, s6 _ _ h5, kv_mono s6.tk pk⟩
  obtain ⟨dkv, hD6⟩ := hM6.at
  have nspD : sp ≠ D := ne_of (s6 _ _ h5) hD6 (by intro z; cases z)
  refine ⟨_, rfl, ca, rfl, ⟨cus, SqT.of (s16 _ _ hca)⟩, ?_⟩
  refine forS (A := rParish) (ds := S.county) src_tup (Pv := fun i σ H7 => ∃ x8 x9 x10 x11 x12, σ = [some (.ref p), some (.ref qq), some (.ref ca), some (.int S.total), some (.ref D), some (.ref sp), some (.int (S.county.map worthSo).sum), some (.int ((sumsP S.county S.total).take i).sum), x8, x9, x10, x11, x12, none] ∧
    Bar D D H6 H7 ∧ IsDb H7 D 300000 (fun k v => Ent S k v ∧ k.2.1 ∉ (allHouses (S.county.take i)).map (·.1))) ?_ ?_ ?_ ?_
  · exact ⟨_, _, _, _, _, rfl, Bar.refl, hM6.imp fun k v => ⟨fun m => ⟨m, fun z => by cases z⟩, fun m => m.1⟩⟩
  · rintro i σ H7 hi ⟨x8, x9, x10, x11, x12, rfl, x7, hM7⟩
    have sT := Bar.same s16 x7 hD hD
    exact okT_mono sT.tk ⟨cus, hca, pcu⟩
  · rintro i d x σ H7 H8 hd ⟨x8, x9, x10, x11, x12, rfl, x7, hM7⟩ s8 r
    have sT : Same H H8 := (Bar.same s16 x7 hD hD).trans s8
    obtain ⟨t0, _, v2, rfl, ht, rfl, ⟨hb, hus, rfl, hhb, phu⟩⟩ := r
    have okd := ok.co.all d (List.mem_of_getElem? hd)
    have dl := okd.hi
    have hi := lt_of_get hd
    refine ⟨t0, _, rfl, ht, rfl, _, _, rfl, _, _, rfl, rfl, ?_⟩
    obtain ⟨own, hown⟩ : ∃ own, (sumsP S.county S.total)[i]? = some own := ⟨_, List.getElem?_eq_getElem (by rw [sumsP_len]; exact hi)⟩
    have hz : (d, own) ∈ S.county.zip (sumsP S.county S.total) := List.mem_iff_getElem?.mpr ⟨i, List.getElem?_zip_eq_some.mpr ⟨hd, hown⟩⟩
    have ss := shares_sum ok.co ok.pos ok.t0 hz
    have hM8 := hM7.mono s8
    obtain ⟨dk8, hD8⟩ := hM8.at
    have hDT8 : ∀ xs, H8 D ≠ some (.tup xs) := fun xs z => by
      rw [hD8] at z
      cases z
    refine ⟨_, rfl, hb, rfl, ⟨hus, SqT.of hhb⟩, fun L hL => ?_⟩
    have nLD : L ≠ D := (ne_of_none hD8 hL).symm
    refine lcP (A := rHouse) (ds := d.2) src_tup (Pv := fun j acc H9 => Bar D D H8 H9 ∧ H9 L = some (.lst acc) ∧ acc.length ≤ j ∧ IsDb H9 D 300000 (fun k v => Ent S k v ∧ k.2.1 ∉ doneN S.county i d j) ∧ Paired (rI H9) acc ((d.2.take j).map fun h => sumOf S.county S.total h.1)) (by omega) ?_ ?_ ?_ ?_ ?_
    · exact ⟨(Same.new hL).bar, upd_same, Nat.le_refl _, (hM8.mono (Same.new hL)).imp fun k v => by rw [done_none], .nil⟩
    · rintro j acc H9 ⟨x9, h9, l9, _⟩
      exact ⟨h9, l9⟩
    · rintro j acc H9 ⟨x9, h9, l9, _⟩
      exact okT_mono (x9.tk hDT8 hDT8) ⟨hus, hhb, phu⟩
    · rintro j h x H9 HA acc hj ⟨x9, h9, l9, hM9, p9⟩ sA rh
      have sHA : Same H HA := (Bar.same sT x9 hD hD).trans sA
      have x6A : Bar D D H6 HA := Bar.trans x7 (Bar.trans s8.bar (Bar.trans x9 sA.bar))
      have hDT6 : ∀ xs, H6 D ≠ some (.tup xs) := fun xs z => by
        rw [hD6] at z
        cases z
      have ispA : IsSp HA sp S := by
        obtain ⟨k2, g1, g2⟩ := isp6
        exact ⟨k2, x6A _ _ nspD nspD g1, kv_mono (x6A.tk hDT6 hDT6) g2⟩
      have hmem : h ∈ allHouses S.county := List.mem_flatMap.mpr ⟨d, List.mem_of_getElem? hd, List.mem_of_getElem? hj⟩
      refine ⟨rfl, yes_then ?_⟩
      refine iteT ⟨_, rfl, _, rfl, _, rfl, _, rfl, p, gdx, _, rfl, sHA _ _ gp, rfl, p, lb, S, n, rfl, hg.mono sHA, fun ve2 re2 => ?_⟩
      refine ⟨x, D, sp, ve2, h, S, ppl, 300000, _, rfl, rh, hmem, ok, hM9.mono sA, fun key v e => ⟨fun m => m.1, fun m => ⟨m, by rw [e]; exact not_done ok.co hd hj⟩⟩, ispA, re2, fun HB xB hMB => ?_⟩
      have hBL := xB _ _ nLD nLD (sA _ _ h9)
      have tk : Tk HB (upd HB L (.lst (acc ++ [.int (sumOf S.county S.total h.1)]))) := Tk.upd hBL fun _ z => by cases z
      refine ⟨hBL, fun a0 u n1 n2 hu => by rw [upd_ne (ne_of_none hu hL)]; exact xB _ _ n1 n2 (sA _ _ (x9 _ _ n1 n2 hu)), upd_same, by rw [List.length_append]; exact Nat.succ_le_succ l9, (hMB.keep (fun kvs h => by rw [upd_ne nLD.symm]; exact h) tk).imp fun k v => ?_, ?_⟩
      · rw [done_succ hj]
        exact ⟨fun m => ⟨m.1.1, fun z => z.elim m.1.2 m.2⟩, fun m => ⟨⟨m.1, fun z => m.2 (.inl z)⟩, fun z => m.2 (.inr z)⟩⟩
      · rw [take_more hj, List.map_append]
        exact pr_snoc (pr_imp p9 fun _ _ z => z) rfl
    · rintro acc H9 ⟨x9, h9, l9, hM9, p9⟩
      rw [List.take_length, parish_sums ok.co hz] at p9
      have ea := pr_int p9
      have tk89 := x9.tk hDT8 hDT8
      have hhb9 := tk89 _ _ hhb
      have phu9 := mnL tk89 phu
      have w0 := worth_nn okd.all
      have w1 := worth_le okd
      have W0 := worths_pos ok.co ok.pos
      have W1 := worths_le ok.co
      refine ⟨_, rfl, L, acc, rfl, .inl h9, rfl, by rw [ea]; exact flat_ints _, false, by rw [ea]; exact congrArg V.bl (inV_none _), iteF ?_⟩
      refine ⟨_, rfl, L, acc, _, rfl, h9, p9, _, rfl, _, rfl, .ref hb, d.2, rfl, ⟨hb, hus, rfl, hhb9, phu9⟩, by omega, fun HA sA => ⟨_, rfl, _, _, _, _, rfl, by omega, by omega, w0, Int.le_trans w1 (by decide), true, dT ?_, iteF ?_⟩⟩
      · rw [ss]
        exact near_parish ok.co ok.pos hz
      have hA9 := sA _ _ h9
      refine ⟨_, rfl, _, rfl, .t, .l, _, _, hus, acc, rfl, ⟨hb, rfl, SqT.of (sA _ _ hhb9)⟩, ⟨L, rfl, SqL.of hA9⟩, ?_⟩
      have pA := mnL sA.tk phu9
      refine forS (A := rP rHouse rI) (ds := d.2.zip (sharesOf d own)) src_zip (Pv := fun j σ HB => ∃ y11 y12, σ = [some (.ref p), some (.ref qq), some (.ref ca), some (.int S.total), some (.ref D), some (.ref sp), some (.int (S.county.map worthSo).sum), some (.int ((sumsP S.county S.total).take i).sum), some (.str d.1), some (.ref hb), some (.ref L), y11, y12, none] ∧ Same HA HB) ?_ ?_ ?_ ?_
      · exact ⟨_, _, rfl, Same.refl _⟩
      · rintro j σ HB hj ⟨y11, y12, rfl, sB⟩
        exact ⟨okK_mono sB (k := .t) ⟨hb, rfl, hus, sA _ _ hhb9, pA⟩, okK_mono sB (k := .l) ⟨L, rfl, acc, hA9, pr_imp p9 fun _ _ z => z⟩⟩
      · rintro j gs x σ HB HC hj ⟨y11, y12, rfl, sB⟩ sC r
        obtain ⟨T0, _, _, rfl, hT, ⟨a1, _, _, _, rfl, h1, rfl, rfl, _⟩, rfl⟩ := r
        have sAC := sB.trans sC
        have hgm := List.mem_of_getElem? hj
        have gok := okd.all gs.1 (List.of_mem_zip hgm).1
        have g0 := gok.lo
        have g1 := gok.hi
        refine ⟨T0, _, rfl, hT, rfl, _, _, rfl, _, _, rfl, rfl, ?_⟩
        refine ⟨_, rfl, _, rfl, L, acc, _, rfl, sAC _ _ hA9, pr_imp p9 fun _ _ z => z, _, rfl, a1, _, 1, _, rfl, rfl, h1, rfl, _, rfl, .ref hb, d.2, rfl, ⟨hb, hus, rfl, sAC _ _ (sA _ _ hhb9), mnL sAC.tk pA⟩, by omega, fun HD sD => ⟨1, worthSo d, rfl, _, _, _, _, rfl, ?_, ?_, g0, Int.le_trans g1 (by decide), true, dT ?_, iteF ⟨_, _, rfl, sAC.trans sD⟩⟩⟩
        · rw [max_if]
          omega
        · rw [max_if]
          omega
        · rw [max_if, ss]
          exact near_house ok.co ok.pos ok.t0 hz hgm
      · rintro σ HB ⟨y11, y12, rfl, sB⟩
        have es : ((sumsP S.county S.total).take (i + 1)).sum = ((sumsP S.county S.total).take i).sum + (sharesOf d own).sum := by
          rw [take_more hown, List.sum_append, ss]
          simp
        refine ⟨_, rfl, _, rfl, L, acc, _, rfl, sB _ _ hA9, pr_imp p9 fun _ _ z => z, _, _, rfl, rfl, some (.str d.1), some (.ref hb), some (.ref L), y11, y12, ?_, Bar.trans x7 (Bar.trans s8.bar (Bar.trans x9 (Bar.trans sA.bar sB.bar))), (hM9.mono (sA.trans sB)).imp fun k v => by rw [done_all hd]⟩
        rw [es]
        rfl
  · rintro σ H7 ⟨x8, x9, x10, x11, x12, rfl, x7, hM7⟩
    have sT := Bar.same s16 x7 hD hD
    rw [List.take_length] at hM7
    have hnil := hM7.nil fun k v m => by
      obtain ⟨⟨_, g, hg, _, _, _, _, _, e3, _⟩, m2⟩ := m
      exact m2 (by rw [e3]; exact List.mem_map_of_mem hg)
    have et : ((sumsP S.county S.total).take S.county.length).sum = S.total := by
      rw [List.take_of_length_le (by rw [sumsP_len]; exact Nat.le_refl _)]
      exact sumsP_sum ok.co ok.pos
    rw [et]
    refine ⟨_, rfl, ?_⟩
    refine ⟨_, rfl, _, rfl, rfl, true, dT rfl, iteT ⟨_, rfl, fun pe hpe => ?_⟩⟩
    have s8 : Same H7 (upd H7 pe (.dT [])) := Same.new hpe
    exact ⟨D, pe, rfl, rfl, s8 _ _ hnil, upd_same, q _ (sT.trans s8)⟩
end
end K5
set_option maxHeartbeats 1000000
namespace K5
open PySem PySem.Spec PyProof.Rows L2
def spAsked (CL CB CT : Addr) : Sp := fun vs H Q _ => ∃ p lb S n q ppl, vs = [.ref p, .ref q] ∧ IsLg CL CB CT H p lb S n ∧ BkOk ppl S ∧ S.coming.length ≤ n ∧ n ≤ 990 ∧ PplAt H q ppl ∧ ∀ H', Same H H' → Q (.bl true) H'
section
variable {P : Program} {w : World} {K : PySem.W.Frag} {mg : Str → Option Value} {base : Heap}
abbrev N__law_asked_right : List Str := ["_law_ledger", "_law_people_here", "_law_twin", "_law_which"]
theorem sc__law_asked_right : FnScope N__law_asked_right ["_law_ledger", "_law_people_here"] (defScope (top 107)) := ⟨rfl, rfl, rfl, by decide +kernel, rfl, by decide +kernel, by decide +kernel⟩
theorem c__law_asked_right (T : Txt w K mg) : Cl P w K mg base CX0 12 "_law_asked_right" (spAsked T.cLedger T.cBooks T.cTerm) := by
  refine Cl.of T.d__law_asked_right sc__law_asked_right (fun _ _ _ _ _ _ us h => by obtain ⟨u0, u1, rfl⟩ := len2 h; rfl) (fun vs H Q E h => by obtain ⟨p, lb, S, n, qq, ppl, rfl, hg, ok, hcl, hn, hq, q⟩ := h; rfl) fun f cdv A outer s H vs Q E hr h => ?_
  obtain ⟨p, lb, S, n, qq, ppl, rfl, hg, ok, hcl, hn, hq, q⟩ := h
  refine ⟨_, PSs.nox ((pss_cons (ps_set (i := 2) sc__law_asked_right.nd rfl (Or.inl rfl) (pm0 (c_Ledger_copy T) (hr.mono (by decide)) pass0 (pv 0)))
  (pss_cons (ps_for PassesOwn.never rfl (pi_tup (pe_tupS (pa_cons pe_int (pa_cons pe_int pa_nil)))) (pg_name (i := 3) sc__law_asked_right.nd rfl (Or.inl rfl))
  (pss_one (ps_expr (pm (c_Ledger_do T) (hr.mono (by decide)) passF (pv 2) (pa_cons (pe_tupS (pa_cons pe_str (pa_cons (pv 3) pa_nil))) pa_nil)))))
  (pss_one (ps_ret (pc (c__law_year_right T) (hr.mono (by decide)) pass0 (pa_cons (pv 2) (pa_cons (pv 1) pa_nil)))))))), ?_⟩
  obtain ⟨gdx, gb, gl2, gp⟩ := hg.ins
  refine ⟨_, rfl, p, gdx, _, rfl, gp, rfl, p, lb, S, n, ppl, rfl, hg, by omega, ok, fun p2 l2 H1 s1 hp2 hl2 hg1 => ?_⟩
  refine ⟨le2, fun pt H2 hpt s2 h2 => ⟨pt, rfl, ⟨_, SqT.of h2⟩, ?_⟩⟩
  have s12 := s1.trans s2
  refine forS (A := rI) (ds := [1, 2]) src_tup (Pv := fun i σ H3 => ∃ x3 S3 n3, σ = [some (.ref p), some (.ref qq), some (.ref p2), x3] ∧ Bar p2 l2 H2 H3 ∧ IsLg T.cLedger T.cBooks T.cTerm H3 p2 l2 S3 n3 ∧ BkOk ppl S3 ∧ S3.coming.length ≤ n3 ∧ n3 ≤ n + i ∧ (i : Int) ≤ S3.halves) ?_ ?_ ?_ ?_
  · exact ⟨_, S, n, rfl, Bar.refl, hg1.mono s2, ok, hcl, Nat.le_refl _, ok.v0⟩
  · rintro i σ H3 hi ⟨x3, S3, n3, rfl, x, hg3, ok3, hc3, hn3, hh3⟩
    have sT := Bar.same s12 x hp2 hl2
    have npt : pt ≠ p2 := by
      obtain ⟨_, _, _, g⟩ := (hg1.mono s2).ins
      exact ne_of h2 g (by intro z; cases z)
    have nptl : pt ≠ l2 := by
      obtain ⟨dx, b, d, l3, xs, ys, _, hl, _⟩ := hg1.mono s2
      exact ne_of h2 hl (by intro z; cases z)
    exact ⟨_, x _ _ npt nptl h2, .cons rfl (.cons rfl .nil)⟩
  · rintro i k x σ H3 H4 hk ⟨x3, S3, n3, rfl, xB, hg3, ok3, hc3, hn3, hh3⟩ s4 r
    obtain rfl : x = .int k := r
    have hk12 : k = (i : Int) + 1 := by
      match i, hk with
      | 0, hk => exact (Option.some.inj hk).symm
      | 1, hk => exact (Option.some.inj hk).symm
      | i + 2, hk => simp at hk
    have hi := lt_of_get hk
    have hi : i < 2 := hi
    have hg4 := hg3.mono s4
    obtain ⟨dx4, b4, l4, g4⟩ := hg4.ins
    refine ⟨_, rfl, p2, dx4, _, rfl, g4, rfl, _, rfl, le2, fun pd H5 hpd s5 h5 => ?_⟩
    refine ⟨p2, l2, pd, S3, n3, ppl, .demand k, rfl, h5, hg4.mono s5, ok3, by rw [hq.2.1]; decide, hc3, by omega, True.intro, fun H6 a s6 hf no h6 => ?_, fun H6 S' xx x6 hf hg6 ok6 hc6 st rs => ?_, fun H6 s6 hc => ?_⟩
    · have no : k ≤ S3.halves := no
      exact ⟨_, S3, n3, rfl, Bar.trans xB (s4.trans (s5.trans s6)).bar, (hg4.mono s5).mono s6, ok3, hc3, by omega, by omega⟩
    · obtain ⟨rfl, e⟩ := st
      refine ⟨_, _, n3 + 1, rfl, Bar.trans xB (Bar.trans (s4.trans s5).bar x6), hg6, ok6, hc6, by omega, ?_⟩
      show ((i + 1 : Nat) : Int) ≤ k
      omega
    · have := hc (inB_iff.mpr ⟨by omega, by omega⟩)
      have this : ¬ k ≤ S3.halves + 1 := this
      omega
  · rintro σ H3 ⟨x3, S3, n3, rfl, xB, hg3, ok3, hc3, hn3, hh3⟩
    have sT := Bar.same s12 xB hp2 hl2
    have v1 := ok3.v1
    have hh3 : (2 : Int) ≤ S3.halves := hh3
    exact ⟨_, rfl, _, rfl, p2, l2, S3, n3, qq, ppl, rfl, hg3, ok3, by show S3.halves = 2; omega, hq.mono sT, fun H4 s4 => q _ (sT.trans s4)⟩
end
end K5
set_option maxHeartbeats 1000000
namespace K5
open PySem PySem.Spec PyProof.Rows L2
/-! ### the county by hand -/
def heldH (ppl : List Str) : List Hold := (List.range 12).map fun k => (nsF ppl (k % 6), 1 + 30 * (k : Int), 30 + 30 * (k : Int))
def ctyH (a b c : Str) (ppl : List Str) (w : Int × Int × Int) : County := [(a, [(a, w.1, heldH ppl), (b, w.2.1, [])]), (b, [(c, w.2.2, [(nsF ppl 0, 360, 360)])])]
def wH : List (Int × Int × Int) := [(7, 2, 1), (7, 2, 9999), (0, 2, 9999), (0, 0, 9999), (1, 0, 9999), (1, 0, 0)]
def dH (a b c : Str) : List (Str × Int) := [(c, 9999), (a, 0), (b, 0), (a, 1), (c, 0)]
structure AbcOk (a b c : Str) : Prop where
  na : NameOk a
  nb : NameOk b
  nc : NameOk c
  ab : a ≠ b
  ac : a ≠ c
  bc : b ≠ c
theorem held_ok {ppl : List Str} (hl : ppl.length = 6) (hp : ∀ z ∈ ppl, NameOk z) : HsOk ppl (heldH ppl) := by
  have hm : ∀ x ∈ heldH ppl, ∃ k < 12, x = (nsF ppl (k % 6), 1 + 30 * (k : Int), 30 + 30 * (k : Int)) := fun x hx => by
    obtain ⟨k, hk, rfl⟩ := List.mem_map.mp hx
    exact ⟨k, List.mem_range.mp hk, rfl⟩
  refine ⟨by unfold heldH; rw [List.length_map, List.length_range]; exact Nat.le_refl _, fun x hx => ?_, ?_, fun x hx => ?_⟩
  · obtain ⟨k, hk, rfl⟩ := hm x hx
    exact ⟨hp _ (nsF_mem (by omega)), by show 1 ≤ 1 + 30 * (k : Int); omega, by show 1 + 30 * (k : Int) ≤ 30 + 30 * (k : Int); omega, by show 30 + 30 * (k : Int) ≤ 360; omega⟩
  · refine pw_apart ?_
    unfold heldH
    rw [List.pairwise_map]
    refine List.pairwise_lt_range.imp fun {i j} h => ?_
    show 30 + 30 * (i : Int) < 1 + 30 * (j : Int)
    omega
  · obtain ⟨k, hk, rfl⟩ := hm x hx
    exact nsF_mem (by omega)
theorem houses_H (a b c : Str) (ppl : List Str) (w : Int × Int × Int) : allHouses (ctyH a b c ppl w) = [(a, w.1, heldH ppl), (b, w.2.1, []), (c, w.2.2, [(nsF ppl 0, 360, 360)])] := rfl
theorem pos_H (a b c : Str) (ppl : List Str) (w : Int × Int × Int) : posC (ctyH a b c ppl w) = (decide (0 < w.1) || (decide (0 < w.2.1) || decide (0 < w.2.2))) := by
  unfold posC
  rw [houses_H]
  simp
theorem ctyH_ok {a b c : Str} {ppl : List Str} (n : AbcOk a b c) (hl : ppl.length = 6) (hp : ∀ z ∈ ppl, NameOk z) : CGood ppl (ctyH a b c ppl (7, 2, 1)) := by
  have hs := held_ok hl hp
  have p0 : nsF ppl 0 ∈ ppl := nsF_mem (by omega)
  have e : HsOk ppl ([] : List Hold) := ⟨Nat.zero_le _, (fun x h => by cases h), (fun x h => by cases h), fun x h => by cases h⟩
  have o : HsOk ppl [(nsF ppl 0, 360, 360)] := ⟨(by show 1 ≤ 12; decide), all1 (P := HoldOk) ⟨hp _ p0, (by show (1 : Int) ≤ 360; decide), Int.le_refl _, Int.le_refl _⟩, (fun x h => by cases h), all1 (P := fun x : Hold => x.1 ∈ ppl) p0⟩
  have h1 : HouseOk (a, 7, heldH ppl) := ⟨n.na, by show (0 : Int) ≤ 7; decide, by show (7 : Int) ≤ 9999; decide, hs.len, hs.all, hs.apart⟩
  have h2 : HouseOk (b, 2, []) := ⟨n.nb, by show (0 : Int) ≤ 2; decide, by show (2 : Int) ≤ 9999; decide, e.len, e.all, e.apart⟩
  have h3 : HouseOk (c, 1, [(nsF ppl 0, 360, 360)]) := ⟨n.nc, by show (0 : Int) ≤ 1; decide, by show (1 : Int) ≤ 9999; decide, o.len, o.all, o.apart⟩
  refine ⟨⟨by show 1 ≤ 2; decide, by show 2 ≤ 8; decide, ?_, ?_, by show 3 ≤ 60; decide, ?_⟩, by rw [pos_H]; decide, ?_⟩
  · exact allc (P := ParishOk) ⟨n.na, by show 1 ≤ 2; decide, by show 2 ≤ 20; decide, allc (P := HouseOk) h1 (all1 (P := HouseOk) h2)⟩ (all1 (P := ParishOk) ⟨n.nb, by show 1 ≤ 1; decide, by show 1 ≤ 20; decide, all1 (P := HouseOk) h3⟩)
  · show [a, b].Nodup
    simp [n.ab]
  · show [a, b, c].Nodup
    simp [n.ab, n.ac, n.bc]
  · rw [houses_H]
    refine allc (P := fun h : House => ∀ x ∈ h.2.2, x.1 ∈ ppl) hs.hold (allc (P := fun h : House => ∀ x ∈ h.2.2, x.1 ∈ ppl) e.hold (all1 (P := fun h : House => ∀ x ∈ h.2.2, x.1 ∈ ppl) o.hold))
theorem with_c {a b c : Str} {ppl : List Str} (n : AbcOk a b c) (w : Int × Int × Int) (v : Int) : withWorth (ctyH a b c ppl w) c v = ctyH a b c ppl (w.1, w.2.1, v) := by
  simp [withWorth, ctyH, n.ac, n.bc]
theorem with_a {a b c : Str} {ppl : List Str} (n : AbcOk a b c) (w : Int × Int × Int) (v : Int) : withWorth (ctyH a b c ppl w) a v = ctyH a b c ppl (v, w.2.1, w.2.2) := by
  simp [withWorth, ctyH, n.ab.symm, n.ac.symm]
theorem with_b {a b c : Str} {ppl : List Str} (n : AbcOk a b c) (w : Int × Int × Int) (v : Int) : withWorth (ctyH a b c ppl w) b v = ctyH a b c ppl (w.1, v, w.2.2) := by
  simp [withWorth, ctyH, n.ab, n.bc.symm]
theorem names_H (a b c : Str) (ppl : List Str) (w : Int × Int × Int) : (allHouses (ctyH a b c ppl w)).map (·.1) = [a, b, c] := rfl
theorem hand_step {a b c : Str} {ppl : List Str} (n : AbcOk a b c) : ∀ (i : Nat) (d : Str × Int) (w : Int × Int × Int), (dH a b c)[i]? = some d → wH[i]? = some w → ∃ w', wH[i + 1]? = some w' ∧ withWorth (ctyH a b c ppl w) d.1 d.2 = ctyH a b c ppl w' ∧ posC (ctyH a b c ppl w') = true ∧
    d.1 ∈ (allHouses (ctyH a b c ppl w)).map (·.1) ∧ NameOk d.1 ∧ 0 ≤ d.2 ∧ d.2 ≤ 9999
  | 0, d, w, h1, h2 => by cases h1; cases h2; exact ⟨_, rfl, with_c n _ _, by rw [pos_H]; decide, by rw [names_H]; simp, n.nc, (by show (0 : Int) ≤ 9999; decide), (by show (9999 : Int) ≤ 9999; decide)⟩
  | 1, d, w, h1, h2 => by cases h1; cases h2; exact ⟨_, rfl, with_a n _ _, by rw [pos_H]; decide, by rw [names_H]; simp, n.na, (by show (0 : Int) ≤ 0; decide), (by show (0 : Int) ≤ 9999; decide)⟩
  | 2, d, w, h1, h2 => by cases h1; cases h2; exact ⟨_, rfl, with_b n _ _, by rw [pos_H]; decide, by rw [names_H]; simp, n.nb, (by show (0 : Int) ≤ 0; decide), (by show (0 : Int) ≤ 9999; decide)⟩
  | 3, d, w, h1, h2 => by cases h1; cases h2; exact ⟨_, rfl, with_a n _ _, by rw [pos_H]; decide, by rw [names_H]; simp, n.na, (by show (0 : Int) ≤ 1; decide), (by show (1 : Int) ≤ 9999; decide)⟩
  | 4, d, w, h1, h2 => by cases h1; cases h2; exact ⟨_, rfl, with_c n _ _, by rw [pos_H]; decide, by rw [names_H]; simp, n.nc, (by show (0 : Int) ≤ 0; decide), (by show (0 : Int) ≤ 9999; decide)⟩
  | i + 5, d, w, h1, h2 => by simp [dH] at h1
def rDW : Rel (Str × Int) := fun H v d => ∃ t, v = .ref t ∧ H t = some (.tup [.str "worth", .str d.1, .int d.2])
instance : Mon rDW := ⟨fun t ⟨a, e, h⟩ => ⟨a, e, t _ _ h⟩⟩
def spHandRight : Sp := fun vs H Q _ => ∃ nl q ns ppl, vs = [.ref nl, .ref q] ∧ H nl = some (.lst (ns.map V.str)) ∧ ns.length = 3 ∧ NamesOk ns ∧ PplAt H q ppl ∧ ∀ H', Same H H' → Q (.bl true) H'
section
variable {P : Program} {w : World} {K : PySem.W.Frag} {mg : Str → Option Value} {base : Heap}
abbrev N__law_hand_right : List Str := ["_law_names", "_law_people_here", "_law_a", "_law_b", "_law_c", "_law_held", "_law_county_here", "_law_ledger", "_law_deed_here", "_law_k", "_law_row"]
theorem sc__law_hand_right : FnScope N__law_hand_right ["_law_names", "_law_people_here"] (defScope (top 110)) := ⟨rfl, rfl, rfl, by decide +kernel, rfl, by decide +kernel, by decide +kernel⟩
theorem c__law_hand_right (T : Txt w K mg) : Cl P w K mg base CX0 13 "_law_hand_right" spHandRight := by
  refine Cl.of T.d__law_hand_right sc__law_hand_right (fun _ _ _ _ _ _ us h => by obtain ⟨u0, u1, rfl⟩ := len2 h; rfl) (fun vs H Q E h => by obtain ⟨nl, qq, ns, ppl, rfl, hn, hn3, hnn, hq, q⟩ := h; rfl) fun f cdv A outer s H vs Q E hr h => ?_
  obtain ⟨nl, qq, ns, ppl, rfl, hn, hn3, hnn, hq, q⟩ := h
  refine ⟨_, PSs.nox ((pss_cons (ps_asg (pv 0) (pg_lstS (n := 3) rfl (pgs_cons (pg_name (i := 2) sc__law_hand_right.nd rfl (Or.inl rfl)) (pgs_cons (pg_name (i := 3) sc__law_hand_right.nd rfl (Or.inl rfl)) (pgs_cons (pg_name (i := 4) sc__law_hand_right.nd rfl (Or.inl rfl)) pgs_nil)))))
  (pss_cons (ps_set (i := 5) sc__law_hand_right.nd rfl (Or.inl rfl) (pe_callTy call_tupleS (by rfl) T.f_tuple boot_tuple (pa_cons (pe_lcS (own := [("_law_k", 9)]) (by rfl) sc__law_hand_right.nd (pi_range1 rfl T.f_range (pa_cons pe_int pa_nil)) (blkOk_by (own := [("_law_k", 9)]) (N := N__law_hand_right) (sc := defScope (top 110)) (by decide +kernel)) (fun _ _ _ _ _ => (pg_name (i := 9) sc__law_hand_right.nd rfl (Or.inl rfl))) (fun _ _ _ _ _ => pts_nil) (fun _ _ _ _ _ => (pe_tupS (pa_cons (pe_ix ix_listS (pv 1) (pe_op op_mod (pv 9) pe_int) (fun _ _ => rfl)) (pa_cons (pe_op op_add pe_int (pe_op op_mul pe_int (pv 9))) (pa_cons (pe_op op_add pe_int (pe_op op_mul pe_int (pv 9))) pa_nil)))))) pa_nil)))
  (pss_cons (ps_set (i := 6) sc__law_hand_right.nd rfl (Or.inl rfl) (pe_tupS (pa_cons (pe_tupS (pa_cons (pv 2) (pa_cons (pe_tupS (pa_cons (pe_tupS (pa_cons (pv 2) (pa_cons pe_int (pa_cons (pv 5) pa_nil)))) (pa_cons (pe_tupS (pa_cons (pv 3) (pa_cons pe_int (pa_cons (pe_tupS pa_nil) pa_nil)))) pa_nil))) pa_nil))) (pa_cons (pe_tupS (pa_cons (pv 3) (pa_cons (pe_tupS (pa_cons (pe_tupS (pa_cons (pv 4) (pa_cons pe_int (pa_cons (pe_tupS (pa_cons (pe_tupS (pa_cons (pe_ix ix_listS (pv 1) pe_int (fun _ _ => rfl)) (pa_cons pe_int (pa_cons pe_int pa_nil)))) pa_nil)) pa_nil)))) pa_nil)) pa_nil))) pa_nil))))
  (pss_cons (ps_set (i := 7) sc__law_hand_right.nd rfl (Or.inl rfl) (pk (c_Ledger_init T) (hr.mono (by decide)) pass0 (pa_cons (pv 6) (pa_cons pe_int (pa_cons (pe_tupS (pa_cons (pe_ix ix_listS (pv 1) pe_int (fun _ _ => rfl)) pa_nil)) pa_nil)))))
  (pss_cons (ps_for PassesOwn.never rfl (pi_tup (pe_tupS (pa_cons (pe_tupS (pa_cons pe_str (pa_cons (pv 4) (pa_cons pe_int pa_nil)))) (pa_cons (pe_tupS (pa_cons pe_str (pa_cons (pv 2) (pa_cons pe_int pa_nil)))) (pa_cons (pe_tupS (pa_cons pe_str (pa_cons (pv 3) (pa_cons pe_int pa_nil)))) (pa_cons (pe_tupS (pa_cons pe_str (pa_cons (pv 2) (pa_cons pe_int pa_nil)))) (pa_cons (pe_tupS (pa_cons pe_str (pa_cons (pv 4) (pa_cons pe_int pa_nil)))) pa_nil))))))) (pg_name (i := 8) sc__law_hand_right.nd rfl (Or.inl rfl))
  (pss_cons (ps_if (pt_not (pt_val (pc (c__law_asked_right T) (hr.mono (by decide)) pass0 (pa_cons (pv 7) (pa_cons (pv 1) pa_nil))))) (pss_one (ps_ret pe_bl)) pss_nil)
  (pss_one (ps_if (pt_cmpR op_ne (pe_callB (cr_sumS rfl) (by rfl) T.f_sum boot_sum (pa_cons (pe_lcS (own := [("_law_row", 10)]) (by rfl) sc__law_hand_right.nd (pi_tup (pm (c_Ledger_do T) (hr.mono (by decide)) passF (pv 7) (pa_cons (pv 8) pa_nil))) (blkOk_by (own := [("_law_row", 10)]) (N := N__law_hand_right) (sc := defScope (top 110)) (by decide +kernel)) (fun _ _ _ _ _ => (pg_name (i := 10) sc__law_hand_right.nd rfl (Or.inl rfl))) (fun _ _ _ _ _ => pts_nil) (fun _ _ _ _ _ => (pe_op op_sub (pe_ix ix_tupS (pv 10) pe_int (fun _ _ => rfl)) (pe_ix ix_tupS (pv 10) pe_int (fun _ _ => rfl))))) pa_nil)) pe_int (nomark _)) (pss_one (ps_ret pe_bl)) pss_nil))))
  (pss_one (ps_ret (pc (c__law_asked_right T) (hr.mono (by decide)) pass0 (pa_cons (pv 7) (pa_cons (pv 1) pa_nil))))))))))), ?_⟩
  obtain ⟨a, b, c, rfl⟩ := len3 hn3
  have nd := hnn.nd
  have nok : AbcOk a b c := by
    simp at nd
    exact ⟨hnn.ok a (by simp), hnn.ok b (by simp), hnn.ok c (by simp), fun e => nd.1.1 e, fun e => nd.1.2 e, fun e => nd.2 e⟩
  refine ⟨_, rfl, nl, _, rfl, hn, rfl, _, _, rfl, _, _, rfl, _, _, rfl, rfl, ?_⟩
  obtain ⟨hq0, hql, hqn⟩ := hq
  have hpl := hqn.ok
  refine ⟨12, rfl, by decide, by decide, fun D hD => ?_⟩
  refine lcM (A := rI) (B := rHold) (ds := (List.range (12 : Int).toNat).map fun i : Nat => (0 : Int) + (i : Int)) src_range (fun k => (nsF ppl (k % 6).toNat, 1 + 30 * k, 30 + 30 * k)) hD (by decide) (fun H1 s1 => True.intro) (fun i k x H1 hk s1 r => ?_) fun acc H1 s1 hD1 pa => ?_
  · obtain rfl : x = .int k := r
    have m0 := Int.emod_nonneg k (b := 6) (by decide)
    have m1 := Int.emod_lt_of_pos k (b := 6) (by decide)
    exact ⟨rfl, _, rfl, _, rfl, _, _, rfl, rfl, (by show (0 : Int) < 6; decide), qq, _, _, _, rfl, rfl, s1 _ _ hq0, atI_nsF (i := (k % 6).toNat) (by omega) (by omega), _, rfl, _, _, rfl, rfl, .inl ⟨by decide, by decide⟩, _, _, rfl, rfl, _, rfl, _, _, rfl, rfl, .inl ⟨by decide, by decide⟩, _, _, rfl, rfl, le3, fun t H2 ht s2 h2 => ⟨s2, t, _, _, _, rfl, h2, rfl, rfl, rfl⟩⟩
  have eh : ((List.range (12 : Int).toNat).map fun i : Nat => (0 : Int) + (i : Int)).map (fun k => ((nsF ppl (k % 6).toNat, 1 + 30 * k, 30 + 30 * k) : Hold)) = heldH ppl := by
    unfold heldH
    rw [List.map_map]
    refine List.map_congr_left fun i _ => ?_
    show (nsF ppl ((0 + (i : Int)) % 6).toNat, 1 + 30 * (0 + (i : Int)), 30 + 30 * (0 + (i : Int))) = _
    rw [show ((0 + (i : Int)) % 6).toNat = i % 6 by omega, Int.zero_add]
  rw [eh] at pa
  refine ⟨D, acc, rfl, hD1, fun tH H2 htH s2 h2 => ?_⟩
  have s12 := s1.trans s2
  have ph := mnL s2.tk pa
  refine ⟨_, rfl, _, rfl, _, rfl, le3, fun t1 G1 _ r1 k1 => ⟨_, rfl, le0, fun e1 G2 _ r2 k2 => ⟨le3, fun t2 G3 _ r3 k3 => ⟨le2, fun th G4 _ r4 k4 => ⟨le2, fun tp1 G5 _ r5 k5 => ?_⟩⟩⟩⟩⟩
  have s05 : Same H G5 := s12.trans (r1.trans (r2.trans (r3.trans (r4.trans r5))))
  refine ⟨_, rfl, _, rfl, _, rfl, qq, _, 0, _, rfl, rfl, s05 _ _ hq0, atI_nsF (i := 0) rfl (by omega), le3, fun h0 G6 _ r6 k6 => ⟨le1, fun l0 G7 _ r7 k7 => ⟨le3, fun t3 G8 _ r8 k8 => ⟨le1, fun th2 G9 _ r9 k9 => ⟨le2, fun tp2 GA _ rA kA => ⟨le2, fun tc GB _ rB kB => ?_⟩⟩⟩⟩⟩⟩
  have s5B : Same G5 GB := r6.trans (r7.trans (r8.trans (r9.trans (rA.trans rB))))
  have s0B := s05.trans s5B
  have rc : rCounty GB (.ref tc) (ctyH a b c ppl (7, 2, 1)) := by
    refine ⟨tc, _, rfl, kB, .cons ⟨tp1, _, _, rfl, s5B _ _ k5, rfl, th, _, rfl, s5B _ _ (r5 _ _ k4), .cons ⟨t1, _, _, _, rfl, s5B _ _ (r5 _ _ (r4 _ _ (r3 _ _ (r2 _ _ k1)))), rfl, rfl, tH, acc, rfl, ?_, ?_⟩ (.cons ⟨t2, _, _, _, rfl, s5B _ _ (r5 _ _ (r4 _ _ k3)), rfl, rfl, e1, [], rfl, s5B _ _ (r5 _ _ (r4 _ _ (r3 _ _ k2))), .nil⟩ .nil)⟩
      (.cons ⟨tp2, _, _, rfl, rB _ _ kA, rfl, th2, _, rfl, rB _ _ (rA _ _ k9), .cons ⟨t3, _, _, _, rfl, rB _ _ (rA _ _ (r9 _ _ k8)), rfl, rfl, l0, _, rfl, rB _ _ (rA _ _ (r9 _ _ (r8 _ _ k7))), .cons ⟨h0, _, _, _, rfl, rB _ _ (rA _ _ (r9 _ _ (r8 _ _ (r7 _ _ k6)))), rfl, rfl, rfl⟩ .nil⟩ .nil⟩ .nil)⟩
    · exact s5B _ _ (r5 _ _ (r4 _ _ (r3 _ _ (r2 _ _ (r1 _ _ h2)))))
    · exact mnL (r1.trans (r2.trans (r3.trans (r4.trans (r5.trans s5B))))).tk ph
  have gd := ctyH_ok nok hql hpl
  refine ⟨_, rfl, _, rfl, qq, _, 1, _, rfl, rfl, s0B _ _ hq0, atI_nsF (i := 1) rfl (by omega), le1, fun te GC _ rC kC => ?_⟩
  have s0C := s0B.trans rC
  refine fun x dx2 hx hdx hne => ?_
  have s0 : Same GC (upd (upd GC dx2 (.own x)) x (.ins T.cLedger dx2 [])) := fun a u h => by
    rw [upd_ne (ne_of_none h hx), upd_ne (ne_of_none h hdx)]
    exact h
  have p1 : nsF ppl 1 ∈ ppl := nsF_mem (by omega)
  have oe : ExcOk [nsF ppl 1] := ⟨(by show 1 ≤ 40; decide), all1 (P := NameOk) (hpl _ p1), fun p hp => by cases hp⟩
  refine ⟨x, dx2, _, .ref te, 100003, ctyH a b c ppl (7, 2, 1), [nsF ppl 1], rfl, upd_same, mn (rC.trans s0) rc, gd.co, gd.pos, by decide, by decide, ⟨te, _, rfl, s0 _ _ kC, .cons rfl .nil⟩, oe, fun lb G keep hlb hg => ⟨rfl, ?_⟩⟩
  have sCG : Same GC G := fun a u h => keep a u (ne_of_none h hx) (s0 a u h)
  have sG := s0C.trans sCG
  have hxH : H x = none := none_back s0C hx
  have hlbH : H lb = none := none_back s0C (none_back s0 hlb)
  have ok : BkOk ppl (bk0 (ctyH a b c ppl (7, 2, 1)) 100003 [nsF ppl 1]) := bk0_ok gd (by decide) (by decide) oe
  refine ⟨_, rfl, le3, fun d1 K1 _ u1 v1 => ⟨_, rfl, le3, fun d2 K2 _ u2 v2 => ⟨_, rfl, le3, fun d3 K3 _ u3 v3 => ⟨_, rfl, le3, fun d4 K4 _ u4 v4 => ⟨_, rfl, le3, fun d5 K5 _ u5 v5 => ⟨le5, fun td K6 _ u6 v6 => ⟨td, rfl, ⟨_, SqT.of v6⟩, ?_⟩⟩⟩⟩⟩⟩⟩
  have uA : Same G K6 := u1.trans (u2.trans (u3.trans (u4.trans (u5.trans u6))))
  have pd : Paired (rDW K6) [.ref d1, .ref d2, .ref d3, .ref d4, .ref d5] (dH a b c) :=
    .cons ⟨d1, rfl, u6 _ _ (u5 _ _ (u4 _ _ (u3 _ _ (u2 _ _ v1))))⟩ (.cons ⟨d2, rfl, u6 _ _ (u5 _ _ (u4 _ _ (u3 _ _ v2)))⟩ (.cons ⟨d3, rfl, u6 _ _ (u5 _ _ (u4 _ _ v3))⟩ (.cons ⟨d4, rfl, u6 _ _ (u5 _ _ v4)⟩ (.cons ⟨d5, rfl, u6 _ _ v5⟩ .nil))))
  have hgK := hg.mono uA
  have sK := sG.trans uA
  refine forS (A := rDW) (ds := dH a b c) src_tup (Pv := fun i σ L => ∃ x8 S n w, σ = [some (.ref nl), some (.ref qq), some (.str a), some (.str b), some (.str c), some (.ref tH), some (.ref tc), some (.ref x), x8, none, none] ∧ Bar x lb K6 L ∧ IsLg T.cLedger T.cBooks T.cTerm L x lb S n ∧ n ≤ i ∧ BkOk ppl S ∧ S.coming.length ≤ n ∧ wH[i]? = some w ∧ S.county = ctyH a b c ppl w) ?_ ?_ ?_ ?_
  · exact ⟨_, _, 0, (7, 2, 1), rfl, Bar.refl, hgK, Nat.le_refl _, ok, Nat.le_refl _, rfl, rfl⟩
  · rintro i σ L hi ⟨x8, S, n, w, rfl, xB, hgS, hni, okS, hcS, hw, hcty⟩
    exact okT_mono (hgK.tk xB) ⟨_, v6, pd⟩
  · rintro i d v σ L L' hd ⟨x8, S, n, w, rfl, xB, hgS, hni, okS, hcS, hw, hcty⟩ sL r
    obtain ⟨t, rfl, ht⟩ := r
    have hi5 : i < 5 := lt_of_get hd
    have sT : Same H L' := (Bar.same sK xB hxH hlbH).trans sL
    obtain ⟨w', hw', hww, hpos, hmem, hnm, h0, h1⟩ := hand_step (ppl := ppl) nok i d w hd hw
    refine ⟨_, rfl, _, rfl, x, lb, S, n, qq, ppl, rfl, hgS.mono sL, okS, hcS, by omega, ⟨sT _ _ hq0, hql, hqn⟩, fun L1 s1' => ⟨true, rfl, iteF ?_⟩⟩
    have hg1 := (hgS.mono sL).mono s1'
    have xB1 : Bar x lb K6 L1 := Bar.trans xB (sL.trans s1').bar
    obtain ⟨dxL, bL, l2L, hins⟩ := hg1.ins
    refine ⟨_, rfl, x, dxL, _, rfl, hins, rfl, _, rfl, x, lb, t, S, n, ppl, .worth d.1 d.2, rfl, s1' _ _ ht, hg1, okS, by rw [hql]; decide, hcS, by omega, hnm, fun L2 ea s2' hf hno hea => ?_, fun L2 S' rx x2 hf hg2 ok2 hc2 st rs => ?_, fun L2 s2' hc => ?_⟩
    · have hno : withWorth S.county d.1 d.2 = S.county := hno
      have sum0 : (([] : List (Str × Int × Int)).map fun r => r.2.2 - r.2.1).sum = 0 := rfl
      have rr : rTL (rT3 rS rI rI) L2 (.ref ea) [] := ⟨ea, [], rfl, hea, .nil⟩
      obtain ⟨ra, rus, era, hra, pru⟩ := rr
      injection era with era
      subst era
      refine ⟨_, rfl, ⟨rus, SqT.of hra⟩, fun E1 hE1 => ?_⟩
      refine lcM (A := rT3 rS rI rI) (B := rI) (ds := []) src_tup (fun r => r.2.2 - r.2.1) hE1 (by show 0 ≤ 1000000; decide) (fun L4 s4 => okT_mono s4.tk ⟨rus, hra, pru⟩) (fun j r y L4 hr s4 rr4 => ?_) fun acc4 L4 s4 hE4 pa4 => ?_
      · obtain ⟨t4, _, _, _, rfl, ht4, rfl, rfl, rfl⟩ := rr4
        exact ⟨rfl, _, rfl, t4, _, 2, _, rfl, rfl, ht4, rfl, _, rfl, t4, _, 1, _, rfl, rfl, ht4, rfl, _, _, rfl, rfl, Same.refl _, rfl⟩
      refine ⟨E1, acc4, _, rfl, hE4, pa4, rfl, false, by rw [sum0]; simp, iteF ⟨_, S, n, w', rfl, Bar.trans xB1 (s2'.trans s4).bar, (hg1.mono s2').mono s4, by omega, okS, hcS, hw', (by rw [← hww, ← hcty]; exact hno.symm)⟩⟩
    · obtain ⟨rfl, hin, hp2⟩ := st
      have sum0 := appeal_zero okS h0 h1 hp2
      have rr : rTL (rT3 rS rI rI) L2 (.ref rx) (changedOf (sumsH S.county S.total) (sumsH (withWorth S.county d.1 d.2) S.total)) := rs
      have hlen : (changedOf (sumsH S.county S.total) (sumsH (withWorth S.county d.1 d.2) S.total)).length ≤ 1000000 := by
        have l1 := sumsH_len S.county S.total
        have l2 := okS.co.len
        unfold changedOf
        refine Nat.le_trans (List.length_filter_le _ _) ?_
        rw [List.length_map, List.length_zip]
        omega
      obtain ⟨ra, rus, era, hra, pru⟩ := rr
      injection era with era
      subst era
      refine ⟨_, rfl, ⟨rus, SqT.of hra⟩, fun E1 hE1 => ?_⟩
      refine lcM (A := rT3 rS rI rI) (B := rI) (ds := changedOf (sumsH S.county S.total) (sumsH (withWorth S.county d.1 d.2) S.total)) src_tup (fun r => r.2.2 - r.2.1) hE1 hlen (fun L4 s4 => okT_mono s4.tk ⟨rus, hra, pru⟩) (fun j r y L4 hr s4 rr4 => ?_) fun acc4 L4 s4 hE4 pa4 => ?_
      · obtain ⟨t4, _, _, _, rfl, ht4, rfl, rfl, rfl⟩ := rr4
        exact ⟨rfl, _, rfl, t4, _, 2, _, rfl, rfl, ht4, rfl, _, rfl, t4, _, 1, _, rfl, rfl, ht4, rfl, _, _, rfl, rfl, Same.refl _, rfl⟩
      refine ⟨E1, acc4, _, rfl, hE4, pa4, rfl, false, by rw [sum0]; simp, iteF ⟨_, _, n + 1, w', rfl, Bar.trans xB1 (Bar.trans x2 s4.bar), hg2.mono s4, by omega, ok2, hc2, hw', (by show withWorth S.county d.1 d.2 = _; rw [hcty]; exact hww)⟩⟩
    · have hc := hc (inB_iff.mpr ⟨h0, h1⟩)
      exact absurd ⟨by rw [hcty]; exact hmem, by rw [hcty, hww]; exact hpos⟩ hc
  · rintro σ L ⟨x8, S, n, w, rfl, xB, hgS, hni, okS, hcS, hw, hcty⟩
    have hni : n ≤ 5 := hni
    have sT := Bar.same sK xB hxH hlbH
    exact ⟨_, rfl, _, rfl, x, lb, S, n, qq, ppl, rfl, hgS, okS, hcS, by omega, ⟨sT _ _ hq0, hql, hqn⟩, fun L1 s1' => q _ (sT.trans s1')⟩
end
end K5
set_option maxHeartbeats 1000000
namespace K5
open PySem PySem.Spec PyProof.Rows L2 LamX
/-! ### a def whose code object is known -/
def DefAtC (K : PySem.W.Frag) (mg : Str → Option Value) (x : Str) (st : Stmt) (c : Addr) : Prop := ∃ f fd, FnP K x x st f fd ∧ mg x = some (.ref f) ∧ fd.code = .ref c
theorem ClG.ofC {P : Program} {w : World} {K : PySem.W.Frag} {mg : Str → Option Value} {base : Heap} {CX : CXT} {x : Str} {st : Stmt} {N ps : List Str} {k : Nat} {sp : Sp} {c : Addr} (F : DefAtC K mg x st c) (S : FnScope N ps (defScope st)) (hb : BindH x x st ps) (len : ∀ vs H Q E, sp vs H Q E → vs.length = ps.length)
    (hbody : ∀ (f : Addr) (cdv : Value), cdv = .ref c → ∀ (A : Around), A.guards = some [] → ∀ (outer : List Env) (s : Shared) (H : Hp) (vs : List V) (Q : VK) (E : XK), Room k (A.deeper (envOfC x (defScope st) s.heap.objs.size f cdv)) → sp vs H Q E →
      ∃ t, PSs (cxOf CX P w K mg base N x (defScope st) f cdv A outer s H E) (defBody st) t ∧ t { nx := fun _ H' => Q .non H', rt := Q } (L2.start N vs) H) : ClG P w K mg base CX (k + 1) x sp := by
  obtain ⟨f, fd, F, hm, hc⟩ := F
  refine ⟨f, fd, ps, ?_, hm, F.kp, F.bindsN hb⟩
  obtain ⟨oc, od, dV, kV, doc, pm, an, cdv, ct, osl, e, lk, hcd, _, _⟩ := F.ex
  subst e
  exact ⟨len, fun A hg outer s H us vs Q E hr e0 hb r hsp => LamX.run_ofS lk hcd S hr e0 hb r (len _ _ _ _ hsp) fun hr2 => hbody f cdv hc A hg outer s H vs Q E hr2 hsp⟩
/-! ### what tables change -/
theorem _root_.LamX.ExtN.tk {H H' : Hp} (e : ExtN H H') : Tk H H' := fun b xs h => e b _ h fun ps z => by cases z
theorem IsM.extN {H H' : Hp} {m c l : Addr} {N : Nat} (e : ExtN H H') (h : IsM H m c l N) : IsM H' m c l N := by
  obtain ⟨cs, ls, k, h1, h2, h3, h4, h5⟩ := h
  exact ⟨cs, ls, k, e _ _ h1 (fun ps z => by cases z), e _ _ h2 (fun ps z => by cases z), h3, e _ _ h4 (fun ps z => by cases z), h5⟩
theorem IsBk.extN {CB : Addr} {H H' : Hp} {b d : Addr} {S : Bk} (e : ExtN H H') (h : IsBk CB H b d S) : IsBk CB H' b d S := by
  obtain ⟨dx, vc, ve, vs, vk, h1, h2, h3, h4, h5⟩ := h
  exact ⟨dx, vc, ve, vs, vk, e _ _ h1 (fun ps z => by cases z), Mon.go (A := rCounty) e.tk h2, Mon.go (A := rTL rS) e.tk h3, Mon.go (A := rTL rPRow) e.tk h4, Mon.go (A := rTL rRec) e.tk h5⟩
theorem IsTerm.extN {CT : Addr} {H H' : Hp} {d : Addr} {n : Nat} {t : V} (e : ExtN H H') (h : IsTerm CT H d n t) : IsTerm CT H' d n t := by
  obtain ⟨a, dx, z, e1, c, wt, kvs, h1, h2, h3, h4, h5, h6⟩ := h
  exact ⟨a, dx, z, e1, c, wt, kvs, h1, e _ _ h2 (fun ps z => by cases z), h3, e _ _ h4 (fun ps z => by cases z), h5, fun kv hk => let ⟨x, hx, ho⟩ := h6 kv hk; ⟨x, Mon.go (A := rP rS rI) e.tk hx, ho⟩⟩
theorem IsTerms.extN {CT : Addr} {H H' : Hp} {d : Addr} {n : Nat} (e : ExtN H H') (h : IsTerms CT H d n) : IsTerms CT H' d n := by
  obtain ⟨kvs, h1, h2, h3⟩ := h
  exact ⟨kvs, e _ _ h1 (fun ps z => by cases z), h2, fun kv hk => let ⟨a, ts, e1, h4, h5, h6⟩ := h3 kv hk; ⟨a, ts, e1, e.tk _ _ h4, h5, fun t ht => (h6 t ht).extN e⟩⟩
theorem IsLg.extN {CL CB CT : Addr} {H H' : Hp} {p l : Addr} {S : Bk} {n : Nat} (e : ExtN H H') (h : IsLg CL CB CT H p l S n) : IsLg CL CB CT H' p l S n := by
  obtain ⟨dx, b, d, l2, xs, ys, h1, h2, h3, h4, h5, h6, h7⟩ := h
  exact ⟨dx, b, d, l2, xs, ys, e _ _ h1 (fun ps z => by cases z), e _ _ h2 (fun ps z => by cases z), h3, e _ _ h4 (fun ps z => by cases z), h5, h6.extN e, h7.extN e⟩
theorem Ppl.extN {H H' : Hp} {q l : Addr} {ppl : List Str} (e : ExtN H H') (h : Ppl H q l ppl) : Ppl H' q l ppl := ⟨e _ _ h.at_ (fun ps z => by cases z), h.len, h.ne, h.ok⟩
/-- an object that no table and no code is -/
def Plain (H : Hp) (b : Addr) : Prop := ∃ u, H b = some u ∧ (∀ ps, u ≠ .tbl ps) ∧ ∀ φ, u ≠ .ext φ
theorem tabs_bar {T : List (Addr × Str)} {b d : Addr} {H H' : Hp} (x : Bar b d H H') (hb : Plain H b) (hd : Plain H d) (t : Tabs T H) : Tabs T H' := fun p hp => by
  obtain ⟨ps, h1, h2, h3⟩ := t p hp
  obtain ⟨ub, kb, kb1, kb2⟩ := hb
  obtain ⟨ud, kd, kd1, kd2⟩ := hd
  have nt : ∀ a, H a = some (.tbl ps) → a ≠ b ∧ a ≠ d := fun a h => ⟨fun e => by rw [e, kb] at h; exact kb1 ps (Option.some.inj h), fun e => by rw [e, kd] at h; exact kd1 ps (Option.some.inj h)⟩
  refine ⟨ps, x _ _ (nt _ h1).1 (nt _ h1).2 h1, h2, fun pos cv hc => ?_⟩
  obtain ⟨c, e, hco⟩ := h3 pos cv hc
  refine ⟨c, e, x _ _ (fun z => ?_) (fun z => ?_) hco⟩
  · rw [z, kb] at hco
    exact kb2 _ (Option.some.inj hco)
  · rw [z, kd] at hco
    exact kd2 _ (Option.some.inj hco)
theorem IsM.plain {H : Hp} {m c l : Addr} {N : Nat} (h : IsM H m c l N) : Plain H m ∧ Plain H l := by
  obtain ⟨cs, ls, k, h1, h2, h3, h4, h5⟩ := h
  exact ⟨⟨_, h1, (fun ps z => by cases z), fun φ z => by cases z⟩, ⟨_, h4, (fun ps z => by cases z), fun φ z => by cases z⟩⟩
theorem IsLg.plain {CL CB CT : Addr} {H : Hp} {p l : Addr} {S : Bk} {n : Nat} (h : IsLg CL CB CT H p l S n) : Plain H p ∧ Plain H l := by
  obtain ⟨dx, b, d, l2, xs, ys, h1, h2, _⟩ := h
  exact ⟨⟨_, h1, (fun ps z => by cases z), fun φ z => by cases z⟩, ⟨_, h2, (fun ps z => by cases z), fun φ z => by cases z⟩⟩
/-- a deed leaves the draws as they are -/
theorem IsM.deed {CL CB CT : Addr} {H H' : Hp} {m c l p lb : Addr} {N n : Nat} {S : Bk} (hM : IsM H m c l N) (hg : IsLg CL CB CT H p lb S n) (x : Bar p lb H H') (nc : lb ≠ c) (nl : lb ≠ l) : IsM H' m c l N := by
  obtain ⟨cs, ls, k, h1, h2, h3, h4, h5⟩ := hM
  obtain ⟨dx, b, d, l2, xs, ys, g1, g2, _⟩ := hg
  exact ⟨cs, ls, k, x _ _ (ne_of h1 g1 (by intro z; cases z)) (ne_of h1 g2 (by intro z; cases z)) h1, x _ _ (ne_of h2 g1 (by intro z; cases z)) nc.symm h2, h3, x _ _ (ne_of h4 g1 (by intro z; cases z)) nl.symm h4, h5⟩
theorem Ppl.deed {CL CB CT : Addr} {H H' : Hp} {q l p lb : Addr} {n : Nat} {S : Bk} {ppl : List Str} (h : Ppl H q l ppl) (hg : IsLg CL CB CT H p lb S n) (x : Bar p lb H H') (nq : q ≠ lb) : Ppl H' q l ppl := by
  obtain ⟨dx, b, d, l2, xs, ys, g1, g2, _⟩ := hg
  exact ⟨x _ _ (ne_of h.at_ g1 (by intro z; cases z)) nq h.at_, h.len, h.ne, h.ok⟩
abbrev lamQ : Str := "_law_going_right.<locals>.<lambda>"
def lamT (PT : Addr) : List (Addr × Str) := [(PT, lamQ)]
def spGoing (PT : Addr) : Sp := fun vs H Q _ => ∃ m c l N, vs = [.ref m] ∧ IsM H m c l N ∧ N ≤ 60000000 ∧ Tabs (lamT PT) H ∧ ∀ H', IsM H' m c l (N + 10000) → Tabs (lamT PT) H' → Q (.bl true) H'
/-- what a deed that was tried leaves -/
def Tried (CL CB CT : Addr) (PT m c l p lb q t : Addr) (ppl : List Str) (N n : Nat) (S : Bk) (D : Deed) (v : V) (H : Hp) : Prop :=
  ∃ S' n', IsM H m c l N ∧ IsLg CL CB CT H p lb S' n' ∧ n' ≤ n + 1 ∧ BkOk ppl S' ∧ ShutOk S' ∧ S'.coming.length ≤ n' ∧ Ppl H q l ppl ∧ Tabs (lamT PT) H ∧ H t = some (.tup (.str D.word :: D.parts)) ∧ ((S'.year = S.year ∧ S'.shut = S.shut) ∨ S'.year = S.year + 1) ∧
    ((∃ us tt, v = .ref tt ∧ H tt = some (.tup us)) ∨ ∃ pf u, v = .ref pf ∧ H pf = some (.lst [u]) ∧ (D.word = "worth" → ∃ rows, rTL (rT3 rS rI rI) H u rows ∧ rows.length ≤ 1000000 ∧ (rows.map fun r => r.2.2 - r.2.1).sum = 0))
theorem word_worth {D : Deed} (hw : D.word = "worth") : ∃ n w, D = .worth n w := by
  cases D with
  | worth n w => exact ⟨n, w, rfl⟩
  | day k => exact absurd (show ("day" : Str) = "worth" from hw) (by decide +kernel)
  | come n z => exact absurd (show ("come" : Str) = "worth" from hw) (by decide +kernel)
  | go n => exact absurd (show ("go" : Str) = "worth" from hw) (by decide +kernel)
  | move n m => exact absurd (show ("move" : Str) = "worth" from hw) (by decide +kernel)
  | excuse z => exact absurd (show ("excuse" : Str) = "worth" from hw) (by decide +kernel)
  | charge z => exact absurd (show ("charge" : Str) = "worth" from hw) (by decide +kernel)
  | demand k => exact absurd (show ("demand" : Str) = "worth" from hw) (by decide +kernel)
  | close k => exact absurd (show ("close" : Str) = "worth" from hw) (by decide +kernel)
  | term p c => exact absurd (show ("term" : Str) = "worth" from hw) (by decide +kernel)
  | pay p k r h e => exact absurd (show ("pay" : Str) = "worth" from hw) (by decide +kernel)
  | hand p k e => exact absurd (show ("hand" : Str) = "worth" from hw) (by decide +kernel)
  | pass p k e => exact absurd (show ("pass" : Str) = "worth" from hw) (by decide +kernel)
theorem res_sum {ppl : List Str} {S S' : Bk} {D : Deed} {H : Hp} {v : V} (ok : BkOk ppl S) (hf : D.form = true) (st : D.Step S S') (rs : D.Res H S v) (hw : D.word = "worth") : ∃ rows, rTL (rT3 rS rI rI) H v rows ∧ rows.length ≤ 1000000 ∧ (rows.map fun r => r.2.2 - r.2.1).sum = 0 := by
  obtain ⟨n, w, rfl⟩ := word_worth hw
  obtain ⟨_, _, hp⟩ := st
  have hb := form_worth hf
  refine ⟨_, rs, ?_, appeal_zero ok hb.1 hb.2 hp⟩
  have l1 := sumsH_len S.county S.total
  have l2 := ok.co.len
  unfold changedOf
  refine Nat.le_trans (List.length_filter_le _ _) ?_
  rw [List.length_map, List.length_zip]
  omega
/-- a statement's reading, closed -/
def tClS (t : TS) : TS := fun D σ H => ∃ R : L2.St → Hp → Prop, t { D with nx := R } σ H ∧ ∀ σ' H', R σ' H' → D.nx σ' H'
theorem _root_.L2.PS.clS {X : Cx} {s : Stmt} {t : TS} (h : PS X s t) : PS X s (tClS t) := by
  refine ⟨fun pins s σ H D I hq => ?_⟩
  obtain ⟨R, h1, h2⟩ := hq
  refine wpAny_mono (h.run pins s σ H { D with nx := R } I h1) (fun f s1 out => ?_) fun e s1 he => he
  match f, out with
  | .next, ⟨σ', H', J, q⟩ => exact ⟨σ', H', J, h2 _ _ q⟩
  | .brk, out => exact out
  | .cont, out => exact out
  | .ret u, out => exact out
theorem IsLg.app {CL CB CT : Addr} {H : Hp} {p l pf : Addr} {S : Bk} {n : Nat} {zs ws : List V} (h : IsLg CL CB CT H p l S n) (hpf : H pf = some (.lst zs)) (nl : pf ≠ l) (hw : ws.length ≤ 1000) : IsLg CL CB CT (upd H pf (.lst ws)) p l S n := by
  obtain ⟨dx, b, d, l2, xs, ys, h1, h2, h3, h4, h5, ⟨bdx, vc, ve, vs, vk, g1, g2, g3, g4, g5⟩, ⟨kvs, k1, k2, k3⟩⟩ := h
  have tk : Tk H (upd H pf (.lst ws)) := Tk.upd hpf fun _ z => by cases z
  have ins : ∀ {a C dx fs}, H a = some (.ins C dx fs) → upd H pf (.lst ws) a = some (.ins C dx fs) := fun {a C dx fs} e => by
    rw [upd_ne (ne_of e hpf (by intro z; cases z))]
    exact e
  have dic : ∀ {a kvs}, H a = some (.dK kvs) → upd H pf (.lst ws) a = some (.dK kvs) := fun {a kvs} e => by
    rw [upd_ne (ne_of e hpf (by intro z; cases z))]
    exact e
  have hl2 : ∃ zs, upd H pf (.lst ws) l2 = some (.lst zs) ∧ zs.length ≤ 1000 := by
    by_cases e : l2 = pf
    · exact ⟨ws, by rw [e]; exact upd_same, hw⟩
    · exact ⟨ys, by rw [upd_ne e]; exact h4, h5⟩
  obtain ⟨us, u1, u2⟩ := hl2
  refine ⟨dx, b, d, l2, xs, us, ins h1, by rw [upd_ne nl.symm]; exact h2, h3, u1, u2, ⟨bdx, vc, ve, vs, vk, ins g1, Mon.go (A := rCounty) tk g2, Mon.go (A := rTL rS) tk g3, Mon.go (A := rTL rPRow) tk g4, Mon.go (A := rTL rRec) tk g5⟩, ⟨kvs, dic k1, k2, fun kv hkv => ?_⟩⟩
  obtain ⟨a, ts, e, m1, m2, m3⟩ := k3 kv hkv
  refine ⟨a, ts, e, tk _ _ m1, m2, fun t ht => ?_⟩
  obtain ⟨a, dx2, z, e1, cm, wt, kv2, f1, f2, f3, f4, f5, f6⟩ := m3 t ht
  exact ⟨a, dx2, z, e1, cm, wt, kv2, f1, ins f2, f3, dic f4, f5, fun kv hk => let ⟨y, hy, ho⟩ := f6 kv hk; ⟨y, Mon.go (A := rP rS rI) tk hy, ho⟩⟩
def GoI (CL CB CT PT m c l p lb q : Addr) (ppl : List Str) (N : Nat) (i : Nat) (σ : L2.St) (G : Hp) : Prop := ∃ y4 y5 y6 y7 y8 y9 z S n, σ = [some (.ref m), some (.ref q), some (.ref p), some (.str z), y4, y5, y6, y7, y8, y9] ∧ (0 < i → z = clStr ppl S) ∧
  IsM G m c l (N + 5400 + 100 * i) ∧ IsLg CL CB CT G p lb S n ∧ n ≤ 6 + i ∧ BkOk ppl S ∧ ShutOk S ∧ S.coming.length ≤ n ∧ Ppl G q l ppl ∧ Tabs (lamT PT) G
theorem isi_lst {X : Cx} : CallR X (.builtin "isinstance") (fun xs H Q => ∃ a vs, xs = [.ref a, .ty "list"] ∧ H a = some (.lst vs) ∧ Q (.bl true) H) := CallR.weak call_isi fun _ _ _ ⟨a, vs, e, h, q⟩ => ⟨_, _, _, _, true, e, .ty "list", .base (.lst h), kit_ty (by decide +kernel), q⟩
section
variable {P : Program} {w : World} {K : PySem.W.Frag} {mg : Str → Option Value} {base : Heap}
abbrev N__law_going_right : List Str := ["_law_m", "_law_people_here", "_law_ledger", "_law_closed_here", "_law_turn", "_law_deed_here", "_law_year", "_law_found", "_law_ahead", "_law_row"]
theorem sc__law_going_right : FnScope N__law_going_right ["_law_m"] (defScope (top 109)) := ⟨rfl, rfl, rfl, by decide +kernel, rfl, by decide +kernel, by decide +kernel⟩
theorem c__law_going_right (T : Txt w K mg) {cA PT : Addr} (hdC : DefAtC K mg "_law_going_right" (top 109) cA) (TB : LamX.TabB base mg cA PT) : ClG P w K mg base CX0 15 "_law_going_right" (spGoing PT) := by
  refine ClG.ofC hdC sc__law_going_right (fun _ _ _ _ _ _ us h => by obtain ⟨u0, rfl⟩ := len1 h; rfl) (fun vs H Q E h => by obtain ⟨m, c, l, N, rfl, hM, hN, hT, q⟩ := h; rfl) fun f cdv hcdv A hgA outer s H vs Q E hr h => ?_
  obtain ⟨m, c, l, N, rfl, hM, hN, hT, q⟩ := h
  obtain ⟨gT, fdT, FT, hmT⟩ := T.d__law_told
  obtain ⟨ocT, odT, dVT, kVT, docT, pmT, anT, cdT, ctT, oslT, eT, lkT, hcdT, _, _⟩ := FT.ex
  have hbT := FT.bindsN (ps := ["_law_deed_here"]) (fun _ _ _ _ _ _ us h => by obtain ⟨u0, rfl⟩ := len1 h; rfl)
  have kpT := FT.kp
  subst eT
  subst hcdv
  refine ⟨_, PSs.nox ((pss_cons (ps_set (i := 1) sc__law_going_right.nd rfl (Or.inl rfl) (pc (c__law_people T) (hr.mono (by decide)) pass0 (pa_cons (pv 0) pa_nil)))
  (pss_cons (ps_asg (pe_tupS (pa_cons (pc (c__law_opened T) (hr.mono (by decide)) pass0 (pa_cons (pv 0) (pa_cons (pv 1) pa_nil))) (pa_cons pe_str pa_nil))) (pg_tupS (n := 2) rfl (pgs_cons (pg_name (i := 2) sc__law_going_right.nd rfl (Or.inr rfl)) (pgs_cons (pg_name (i := 3) sc__law_going_right.nd rfl (Or.inl rfl)) pgs_nil))))
  (pss_cons (ps_for PassesOwn.never rfl (pi_range1 rfl T.f_range (pa_cons pe_int pa_nil)) (pg_name (i := 4) sc__law_going_right.nd rfl (Or.inl rfl))
  (pss_cons (ps_asg (pe_tupS (pa_cons (pc (c__law_any T) (hr.mono (by decide)) pass0 (pa_cons (pv 0) (pa_cons (pv 1) (pa_cons (pv 2) pa_nil)))) (pa_cons (pm0 (c_Ledger_year T) (hr.mono (by decide)) pass0 (pv 2)) pa_nil))) (pg_tupS (n := 2) rfl (pgs_cons (pg_name (i := 5) sc__law_going_right.nd rfl (Or.inr rfl)) (pgs_cons (pg_name (i := 6) sc__law_going_right.nd rfl (Or.inl rfl)) pgs_nil))))
  (pss_cons (ps_set (i := 7) sc__law_going_right.nd rfl (Or.inl rfl) (L2.PE.cl (LamX.pe_lamcall (T := lamT PT) (TT := TTold2 T.eBadDeed) (t := fun E => tMeth T.cLedger "do" (spDo T.cLedger T.cBooks T.cTerm T.eBadDeed) [] E (tVar 2) (tCons (tVar 5) tNil)) (k := 11) rfl hmT kpT lkT hcdT hbT sc__law_told rfl (.inl rfl) (told_gives (X := (cxOf CX0 P w K mg base N__law_going_right "_law_going_right" (defScope (top 109)) f (.ref cA) A outer s H E).nox) T) TB rfl (List.mem_singleton.mpr rfl) (fun p hp _ => by rw [List.mem_singleton.mp hp]; rfl) (hr.mono (by decide)) (lamS_by (sc := defScope (top 109)) (by decide +kernel)) rfl (fun _ _ _ _ _ => rfl) (fun A outer s H E f c' hr2 => pm (c_Ledger_do T) (hr2.mono (by decide)) (passes_call (takes_of rfl rfl rfl rfl) fun _ _ _ _ h => h) (pv 2) (pa_cons (pv 5) pa_nil)))))
  (pss_cons (L2.PS.clS (ps_if (PW.pt (pw_and (pt_cmpR op_eq (pe_ix ix_tupS (pv 5) pe_int (fun _ _ => rfl)) pe_str (nomark _)) (pw_and1 (pt_val (pe_callB call_isi (by rfl) T.f_isinstance boot_isinstance (pa_cons (pv 7) (pa_cons (pe_bltn (v := .ty "list") (by rfl) T.f_list boot_list rfl) pa_nil))))))) (pss_one (ps_if (pt_cmpR op_ne (pe_callB (cr_sumS rfl) (by rfl) T.f_sum boot_sum (pa_cons (pe_lcS (own := [("_law_row", 9)]) (by rfl) sc__law_going_right.nd (pi_tup (pe_ix ix_listS (pv 7) pe_int (fun _ _ => rfl))) (blkOk_by (own := [("_law_row", 9)]) (N := N__law_going_right) (sc := defScope (top 109)) (by decide +kernel)) (fun _ _ _ _ _ => (pg_name (i := 9) sc__law_going_right.nd rfl (Or.inl rfl))) (fun _ _ _ _ _ => pts_nil) (fun _ _ _ _ _ => (pe_op op_sub (pe_ix ix_tupS (pv 9) pe_int (fun _ _ => rfl)) (pe_ix ix_tupS (pv 9) pe_int (fun _ _ => rfl))))) pa_nil)) pe_int (nomark _)) (pss_one (ps_ret pe_bl)) pss_nil)) pss_nil))
  (pss_cons (ps_par (i := 8) (j := 3) rfl sc__law_going_right.nd rfl rfl (by decide) rfl rfl (pa_cons (pv 3) (pa_cons (pcG (c__law_closed T) hgA (hr.mono (by decide)) pass0 (pa_cons (pv 2) (pa_cons (pv 1) pa_nil))) pa_nil)) (by rfl))
  (pss_one (ps_if (PW.pt (pw_or (pt_not (pt_val (pc (c__law_asked_right T) (hr.mono (by decide)) pass0 (pa_cons (pv 2) (pa_cons (pv 1) pa_nil))))) (pw_or1 (PW.pt (pw_and (pt_cmpR op_gt (pv 4) pe_int (nomark _)) (pw_and (pt_cmpR op_eq (pm0 (c_Ledger_year T) (hr.mono (by decide)) pass0 (pv 2)) (pv 6) (nomark _)) (pw_and1 (pt_cmpR op_ne (pv 3) (pv 8) (nomark _))))))))) (pss_one (ps_ret pe_bl)) pss_nil)))))))
  (pss_one (ps_ret pe_bl)))))), ?_⟩
  refine ⟨_, rfl, m, c, l, N, rfl, hM, by omega, fun qa ppl H1 x1 hqa h1 hM1 hl6 hno => ?_⟩
  have hq1 : Ppl H1 qa l ppl := ⟨h1, hl6, hM.new hqa, hno⟩
  have hT1 := tabs_bar x1 hM.plain.1 hM.plain.2 hT
  refine ⟨_, rfl, _, rfl, m, c, l, N + 400, qa, ppl, rfl, hM1, by omega, hq1, fun p lb S0 H2 x2 hM2 hp hlb hg0 ok0 hcom hshut => ⟨le2, fun tq H3 htq s3 h3 => ?_⟩⟩
  have hT2 := tabs_bar x2 hM1.plain.1 hM1.plain.2 hT1
  have nlb : lb ≠ l := hM1.new hlb
  have nlc : lb ≠ c := by
    obtain ⟨cs, ls, k, g1, g2, _⟩ := hM1
    exact (ne_of_none g2 hlb).symm
  have nqlb : qa ≠ lb := ne_of_none h1 hlb
  have hq2 := hq1.bar hM1 x2
  refine ⟨tq, _, rfl, h3, rfl, _, _, rfl, _, _, rfl, rfl, ?_⟩
  refine ⟨13, rfl, by decide, by decide, ?_⟩
  refine forS (A := rI) (ds := (List.range (13 : Int).toNat).map fun i : Nat => (0 : Int) + (i : Int)) src_range (Pv := GoI T.cLedger T.cBooks T.cTerm PT m c l p lb qa ppl N) ?_ ?_ ?_ ?_
  · exact ⟨_, _, _, _, _, _, "", S0, 6, rfl, fun h => by omega, hM2.mono s3, hg0.mono s3, Nat.le_refl _, ok0, (fun r hr => by rw [hshut] at hr; cases hr), by rw [hcom]; exact Nat.zero_le _, hq2.mono s3, hT2.ext s3⟩
  · exact fun _ _ _ _ _ => True.intro
  · rintro i d v σ G G' hd ⟨y4, y5, y6, y7, y8, y9, z, S, n, rfl, hz, hMi, hgi, hni, oki, hsi, hci, hqi, hTi⟩ sG r
    obtain rfl : v = .int d := r
    have hdi : d = (i : Int) ∧ i < 13 := by
      rw [List.getElem?_map] at hd
      cases e : (List.range (13 : Int).toNat)[i]? with
      | none => rw [e] at hd; cases hd
      | some j =>
        rw [e] at hd
        obtain ⟨e1, e2⟩ := List.getElem?_eq_some_iff.mp e
        rw [List.getElem_range] at e2
        rw [List.length_range] at e1
        have e1 : i < 13 := e1
        have : (0 : Int) + (j : Int) = d := Option.some.inj hd
        omega
    obtain ⟨rfl, hi13⟩ := hdi
    have hM' := hMi.mono sG
    have hg' := hgi.mono sG
    have hq' := hqi.mono sG
    have hT' := hTi.ext sG
    refine ⟨_, rfl, _, rfl, _, rfl, m, c, l, _, qa, ppl, p, lb, S, n, rfl, hM', by omega, hq', hg', nlb, oki, by omega, fun t D K1 xk hMk ht hD => ?_⟩
    have hgk := hg'.drw hM' xk hMk nlb
    have hqk := hq'.bar hM' xk
    have hTk := tabs_bar xk hM'.plain.1 hM'.plain.2 hT'
    obtain ⟨dxk, bk, lk, hinsk⟩ := hgk.ins
    refine ⟨_, rfl, p, dxk, _, rfl, hinsk, rfl, p, lb, S, n, rfl, hgk, le2, fun ty K2 hty0 sk hty => ⟨ty, _, rfl, hty, rfl, _, _, rfl, _, _, rfl, rfl, ?_⟩⟩
    refine ⟨Tried T.cLedger T.cBooks T.cTerm PT m c l p lb qa t ppl (N + 5400 + 100 * i + 100) n S D, ⟨hTk.ext sk, fun K3 eN hT3 pf K4 s4 hpf h4 Qk hQk => ?_⟩, fun vr K9 hTr => ?_⟩
    · have hM3 := (hMk.mono sk).extN eN
      have hg3 := (hgk.mono sk).extN eN
      have hq3 := (hqk.mono sk).extN eN
      have ht3 : K3 t = some (.tup (.str D.word :: D.parts)) := eN.tk _ _ (sk _ _ ht)
      have hg4 := hg3.mono s4
      obtain ⟨dx4, b4, l4, hins4⟩ := hg4.ins
      refine ⟨_, rfl, p, dx4, _, rfl, hins4, rfl, _, rfl, p, lb, t, S, n, ppl, D, rfl, s4 _ _ ht3, hg4, oki, by rw [hqi.len]; decide, hci, by omega, hD, fun K5 a s5 hf hno h5 => ?_, fun K5 S' x x5 hf hg5 ok5 hc5 st rs => ?_, fun K5 s5 hc => ?_⟩
      · have sN : Same K3 (upd K5 pf (.lst [.ref a])) := (s4.trans s5).mut hpf
        have na : a ≠ pf := ne_of h5 (s5 _ _ h4) (by intro z; cases z)
        exact hQk _ _ (s5 _ _ h4) ⟨S, n, hM3.mono sN, hg3.mono sN, Nat.le_succ _, oki, hsi, hci, hq3.mono sN, hT3.ext sN, sN _ _ ht3, .inl ⟨rfl, rfl⟩, .inr ⟨pf, .ref a, rfl, upd_same, fun _ => ⟨[], ⟨a, [], rfl, by rw [upd_ne na]; exact h5, .nil⟩, Nat.zero_le _, rfl⟩⟩⟩
      · obtain ⟨dx3, b3, l3, hins3⟩ := hg3.ins
        have npf : pf ≠ p := (ne_of_none hins3 hpf).symm
        have nplb : pf ≠ lb := by
          obtain ⟨_, _, _, _, _, _, _, g2, _⟩ := hg3
          exact (ne_of_none g2 hpf).symm
        have h5 := x5 _ _ npf nplb h4
        have xB : Bar p lb K3 (upd K5 pf (.lst [.ref x])) := fun a u n1 n2 hu => by
          rw [upd_ne (ne_of_none hu hpf)]
          exact x5 _ _ n1 n2 (s4 _ _ hu)
        refine hQk _ _ h5 ⟨S', n + 1, hM3.deed hg3 xB nlc nlb, hg5.app h5 nplb (by show 1 ≤ 1000; decide), Nat.le_refl _, ok5, step_shutOk oki hsi st, hc5, hq3.deed hg3 xB nqlb, tabs_bar xB hg3.plain.1 hg3.plain.2 hT3, hg3.tk xB _ _ ht3, (step_shut st).imp id fun e => e.1, .inr ⟨pf, .ref x, rfl, upd_same, fun hw => ?_⟩⟩
        obtain ⟨rows, r1, r2, r3⟩ := res_sum oki hf st rs hw
        exact ⟨rows, Mon.go (A := rTL (rT3 rS rI rI)) (Tk.upd h5 fun _ z => by cases z) r1, r2, r3⟩
      · refine ⟨rfl, rfl, fun tt us K6 s6 h6 => ?_⟩
        have sN := s4.trans (s5.trans s6)
        exact ⟨S, n, hM3.mono sN, hg3.mono sN, Nat.le_succ _, oki, hsi, hci, hq3.mono sN, hT3.ext sN, sN _ _ ht3, .inl ⟨rfl, rfl⟩, .inl ⟨us, tt, rfl, h6⟩⟩
    · obtain ⟨S', n', hM9, hg9, hn9, ok9, hs9, hc9, hq9, hT9, ht9, hyr, hv⟩ := hTr
      refine ⟨fun σ9 K10 => σ9 = [some (.ref m), some (.ref qa), some (.ref p), some (.str z), some (.int (i : Int)), some (.ref t), some (.int S.year), some vr, y8, y9] ∧ Same K9 K10, ?_, ?_⟩
      · refine ⟨_, rfl, t, _, 0, _, rfl, rfl, ht9, at0, rfl, _, rfl, ite2 (fun e => ?_) (fun e => iteF ⟨rfl, Same.refl _⟩)⟩
        have hw : D.word = "worth" := by
          have := of_decide_eq_true e
          injection this
        rcases hv with ⟨us, tt, rfl, htt⟩ | ⟨pf, u, rfl, hpf, hrows⟩
        · exact ⟨_, rfl, _, _, _, _, false, rfl, .ty "list", .base (.tup htt), kit_ty (by decide +kernel), _, rfl, iteF ⟨rfl, Same.refl _⟩⟩
        · obtain ⟨rows, ⟨ra, rus, rfl, hra, pru⟩, rl, rs⟩ := hrows hw
          refine ⟨_, rfl, _, _, _, _, true, rfl, .ty "list", .base (.lst hpf), kit_ty (by decide +kernel), _, rfl, iteT ?_⟩
          refine ⟨_, rfl, pf, _, 0, _, rfl, rfl, hpf, at0, ra, rfl, ⟨rus, SqT.of hra⟩, fun E1 hE1 => ?_⟩
          refine lcM (A := rT3 rS rI rI) (B := rI) (ds := rows) src_tup (fun r => r.2.2 - r.2.1) hE1 rl (fun L4 s4 => okT_mono s4.tk ⟨rus, hra, pru⟩) (fun j r y L4 hr s4 rr4 => ?_) fun acc4 L4 s4 hE4 pa4 => ?_
          · obtain ⟨t4, _, _, _, rfl, ht4, rfl, rfl, rfl⟩ := rr4
            exact ⟨rfl, _, rfl, t4, _, 2, _, rfl, rfl, ht4, rfl, _, rfl, t4, _, 1, _, rfl, rfl, ht4, rfl, _, _, rfl, rfl, Same.refl _, rfl⟩
          exact ⟨E1, acc4, _, rfl, hE4, pa4, rfl, false, by rw [rs]; simp, iteF ⟨rfl, s4⟩⟩
      · rintro σ9 K10 ⟨rfl, s10⟩
        refine ⟨_, rfl, _, rfl, _, rfl, p, lb, S', n', qa, ppl, rfl, hg9.mono s10, ok9, hs9, (hq9.mono s10).at, fun K11 s11 => ⟨_, _, rfl, ?_⟩⟩
        have sA := s10.trans s11
        refine ⟨_, rfl, _, rfl, p, lb, S', n', qa, ppl, rfl, hg9.mono sA, ok9, hc9, by omega, (hq9.mono sA).at, fun K12 s12 => ⟨true, rfl, iteF ?_⟩⟩
        have sB := sA.trans s12
        have fin : GoI T.cLedger T.cBooks T.cTerm PT m c l p lb qa ppl N (i + 1) [some (.ref m), some (.ref qa), some (.ref p), some (.str (clStr ppl S')), some (.int (i : Int)), some (.ref t), some (.int S.year), some vr, some (.str z), y9] K12 :=
          ⟨_, _, _, _, _, _, _, S', n', rfl, fun _ => rfl, hM9.mono sB, hg9.mono sB, by omega, ok9, hs9, hc9, hq9.mono sB, hT9.ext sB⟩
        obtain ⟨dxB, bB, lB, hinsB⟩ := (hg9.mono sB).ins
        refine ⟨_, rfl, _, _, rfl, rfl, _, rfl, ite2 (fun e => ?_) (fun e => iteF fin)⟩
        have e : (0 : Int) < (i : Int) := of_decide_eq_true e
        refine ⟨_, rfl, p, dxB, _, rfl, hinsB, rfl, p, lb, S', n', rfl, hg9.mono sB, _, rfl, rfl, _, rfl, ite2 (fun e2 => ?_) (fun e2 => iteF fin)⟩
        have e2 : S'.year = S.year := by
          have := of_decide_eq_true e2
          injection this
        have esh : S'.shut = S.shut := by
          rcases hyr with h | h
          · exact h.2
          · omega
        have ez : z = clStr ppl S' := by rw [hz (by omega), cl_same esh]
        refine ⟨_, rfl, _, rfl, rfl, false, ?_, iteF fin⟩
        rw [ez]
        simp
  · rintro σ G ⟨y4, y5, y6, y7, y8, y9, z, S, n, rfl, hz, hMi, hgi, hni, oki, hsi, hci, hqi, hTi⟩
    exact q G (hMi.le (by rw [List.length_map, List.length_range]; show N + 5400 + 100 * 13 ≤ N + 10000; omega)) hTi
end
end K5
set_option maxHeartbeats 1000000
namespace K5
open PySem PySem.Spec PyProof.Rows L2 LamX
def spLaw (K : PySem.W.Frag) (PT : Addr) : Sp := fun vs H Q _ => ∃ (a : Addr) (ns : List Int), vs = [.ref a] ∧ SqL K H a (ns.map V.int) ∧ ns.length ≤ 63 ∧ Tabs (lamT PT) H ∧ ∀ H', Q (.bl true) H'
section
variable {P : Program} {w : World} {K : PySem.W.Frag} {mg : Str → Option Value} {base : Heap}
abbrev N_law : List Str := ["_law_script", "_law_m", "_law_k"]
theorem sc_law : FnScope N_law ["_law_script"] (defScope (top 111)) := ⟨rfl, rfl, rfl, by decide +kernel, rfl, by decide +kernel, by decide +kernel⟩
theorem c_law (T : Txt w K mg) {cA PT : Addr} (gr : ClG P w K mg base CX0 15 "_law_going_right" (spGoing PT)) : ClG P w K mg base CX0 16 "law" (spLaw K PT) := by
  refine ClG.of T.d_law sc_law (fun _ _ _ _ _ _ us h => by obtain ⟨u0, rfl⟩ := len1 h; rfl) (fun vs H Q E h => by obtain ⟨a, ns, rfl, ha, hl, hT, q⟩ := h; rfl) fun f cdv A hgA outer s H vs Q E hr h => ?_
  obtain ⟨a, ns, rfl, ha, hl, hT, q⟩ := h
  refine ⟨_, PSs.nox ((pss_cons (ps_set (i := 1) sc_law.nd rfl (Or.inl rfl) (pc (c__law_begun T) (hr.mono (by decide)) pass0 (pa_cons (pv 0) pa_nil)))
  (pss_cons (ps_if (pt_not (pt_val (pc (c__law_hand_right T) (hr.mono (by decide)) pass0 (pa_cons (pc (c__law_called T) (hr.mono (by decide)) pass0 (pa_cons (pv 1) (pa_cons pe_int pa_nil))) (pa_cons (pc (c__law_people T) (hr.mono (by decide)) pass0 (pa_cons (pv 1) pa_nil)) pa_nil))))) (pss_one (ps_ret pe_bl)) pss_nil)
  (pss_cons (ps_for PassesOwn.never rfl (pi_range1 rfl T.f_range (pa_cons (pe_op op_add pe_int (pe_callB (call_min2 rfl) (by rfl) T.f_min boot_min (pa_cons pe_int (pa_cons (pe_callB call_len_seq (by rfl) T.f_len boot_len (pa_cons (pv 0) pa_nil)) pa_nil)))) pa_nil)) (pg_name (i := 2) sc_law.nd rfl (Or.inl rfl))
  (pss_one (ps_if (pt_not (pt_val (pcG gr hgA (hr.mono (by decide)) pass0 (pa_cons (pv 1) pa_nil)))) (pss_one (ps_ret pe_bl)) pss_nil)))
  (pss_one (ps_ret pe_bl)))))), ?_⟩
  refine ⟨_, rfl, a, ns, rfl, ha, hl, fun m c l H1 s1 hm hc hl0 hM => ?_⟩
  have hT1 := hT.ext s1
  refine ⟨_, rfl, m, c, l, 0, 3, rfl, hM, by omega, by omega, fun nl nms H2 x2 hnl h2 hM2 hn3 hnn => ?_⟩
  have hT2 := tabs_bar x2 hM.plain.1 hM.plain.2 hT1
  refine ⟨_, rfl, m, c, l, _, rfl, hM2, by omega, fun qa ppl H3 x3 hqa h3 hM3 hp6 hno => ?_⟩
  have hT3 := tabs_bar x3 hM2.plain.1 hM2.plain.2 hT2
  have nnl : nl ≠ l := hM.new hnl
  refine ⟨nl, qa, nms, ppl, rfl, hM2.keep x3 h2 nnl, hn3, hnn, ⟨h3, hp6, hno⟩, fun H4 s4 => ⟨true, rfl, iteF ?_⟩⟩
  have sA : Same H H4 := (Bar.same s1 (Bar.trans x2 x3) hm hl0).trans s4
  refine ⟨_, rfl, a, _, rfl, .inl (sA.seq ha), 2, _, rfl, _, _, rfl, rfl, _, rfl, ?_, ?_, ?_⟩
  · rw [List.length_map]
    split <;> omega
  · rw [List.length_map]
    split <;> omega
  refine forS (A := rI) (ds := (List.range _).map fun i : Nat => (0 : Int) + (i : Int)) src_range (Pv := fun i σ G => ∃ y2, σ = [some (.ref a), some (.ref m), y2] ∧ IsM G m c l (800 + 10000 * i) ∧ i ≤ 3 ∧ Tabs (lamT PT) G) ?_ ?_ ?_ ?_
  · exact ⟨_, rfl, (hM3.mono s4).le (by omega), Nat.zero_le _, hT3.ext s4⟩
  · exact fun _ _ _ _ _ => True.intro
  · rintro i d x σ G G' hd ⟨y2, rfl, hMi, hi, hTi⟩ sG r
    have hlt := lt_of_get hd
    rw [List.length_map, List.length_range, List.length_map] at hlt
    have hi3 : i < 3 := by
      have : (1 + (if (ns.length : Int) < 2 then (ns.length : Int) else 2)).toNat ≤ 3 := by
        split <;> omega
      omega
    exact ⟨_, rfl, m, c, l, _, rfl, hMi.mono sG, by omega, hTi.ext sG, fun G2 hM5 hT5 => ⟨true, rfl, iteF ⟨_, rfl, hM5.le (by omega), hi3, hT5⟩⟩⟩
  · rintro σ G ⟨y2, rfl, hMi, hi, hTi⟩
    exact q G
end
end K5
set_option maxHeartbeats 2000000
namespace K5
open PySem PySem.Spec PyProof.Rows L2 LamX
/-- the heap as the law's call finds it: the one table, and the script unless it is known already -/
def lawHp (K : PySem.W.Frag) (t a : Addr) (o : Obj) (xs : List V) : Hp := fun b =>
  if b = t then some (.tbl #[]) else if b = a then (match K.lookup a with | none => some (.frz o (.lst xs)) | some _ => none) else none
section
variable {K : PySem.W.Frag} {t a : Addr} {o : Obj} {xs : List V}
theorem lawHp_t : lawHp K t a o xs t = some (.tbl #[]) := if_pos rfl
theorem lawHp_a (h : a ≠ t) (k : K.lookup a = none) : lawHp K t a o xs a = some (.frz o (.lst xs)) := by
  unfold lawHp
  rw [if_neg h, if_pos rfl, k]
theorem lawHp_cases {b : Addr} {u : HO} (h : lawHp K t a o xs b = some u) : (b = t ∧ u = .tbl #[]) ∨ (b = a ∧ b ≠ t ∧ K.lookup a = none ∧ u = .frz o (.lst xs)) := by
  unfold lawHp at h
  by_cases e : b = t
  · rw [if_pos e] at h
    exact .inl ⟨e, (Option.some.inj h).symm⟩
  · rw [if_neg e] at h
    by_cases e2 : b = a
    · rw [if_pos e2] at h
      cases k : K.lookup a with
      | none =>
        rw [k] at h
        exact .inr ⟨e2, e, rfl, (Option.some.inj h).symm⟩
      | some z => rw [k] at h; cases h
    · rw [if_neg e2] at h
      cases h
end
/-- the law's call, where no repr is under way -/
theorem call_G {P : Program} {w : World} {K : PySem.W.Frag} {mg mb : Str → Option Value} {CX : CXT} {k : Nat} {fa a c t : Addr} {x : Str} {sp : Sp} {s : Shared} {vs : List Value} {ns : List Int}
    (hK : K.In s.heap) (g : s.heap.Ns mainGlobals mg) (b : s.heap.Ns builtinsNs mb) (bb : ∀ x : Str, x ≠ "__name__" → mb x = bootBuiltins x) (nl : s.heap.NoLimit) (gens : s.gens = #[])
    (ht : s.heap.get? t = some { cls := .none, data := .fields #[] }) (kt : K.lookup t = none) (hc : PySem.W.CodeHd s.heap c t)
    (bm : ∃ (m : Addr) (om : Obj), mg "__builtins__" = some (.ref m) ∧ m ≠ builtinsNs ∧ s.heap.get? m = some om ∧ om.cls = .type "module" ∧ om.dict = some builtinsNs ∧ om.data = .plain)
    (ha : s.heap.get? a = some { cls := .type "list", data := .seq vs.toArray }) (hi : IntsAre vs ns) (hl : ns.length ≤ sizeLine) (hr : Room k callerA)
    (F : ∀ base : Heap, K.In base → base.Ns mainGlobals mg → TabB base mg c t → ClG P w K mg base CX k x sp) (hx : mg x = some (.ref fa))
    (hsp : ∀ H : Hp, H t = some (.tbl #[]) → SqL K H a (ns.map V.int) → sp [.ref a] H (fun v _ => v = .bl true) fun _ _ _ => False)
    (hCX : ∀ H e s', CX [] H s (fun _ _ _ => False) e s' → False) :
    codeAny (model P w) callerA (.call (.ref fa) ⟨[.ref a], []⟩) (fun r s' => r = .ok (.ret (.bool true)) ∧ OldK s.heap s'.heap ∧ s'.os = s.os ∧ AllBare s'.gens) s := by
  have rel := vals_ints hi
  have nat : a ≠ t := fun e => by
    rw [← e, ha] at ht
    have := congrArg Obj.data (Option.some.inj ht)
    cases this
  have hsz : (ns.map V.int).length ≤ sizeLine := by rw [List.length_map]; exact hl
  let oa : Obj := { cls := .type "list", data := .seq vs.toArray }
  let H : Hp := lawHp K t a oa (ns.map V.int)
  have Ht : H t = some (.tbl #[]) := lawHp_t
  have seq : SqL K H a (ns.map V.int) := by
    cases ka : K.lookup a with
    | none => exact .inl (.inr ⟨oa, lawHp_a nat ka⟩)
    | some o =>
      have e := hK a o ka
      rw [ha] at e
      cases e
      exact .inr ⟨_, vs.toArray, _, ka, rfl, rfl, rfl, by rw [List.size_toArray, hi.length]; exact hl, by simpa using rel⟩
  have held : HOk P w H s.heap := fun y u e => by
    rcases lawHp_cases e with ⟨e1, e2⟩ | ⟨e1, _, _, e2⟩
    · rw [e1, e2]
      exact ht
    · rw [e1, e2]
      exact ⟨ha, hsz, vs, _, rel, ha⟩
  -- what is neither a list's nor a table's object is not hidden
  have shown : ∀ {y : Addr} {o : Obj}, s.heap.get? y = some o → (∀ l n, o.data ≠ .seq l n) → o.data ≠ .fields #[] → (hidT s.heap H).get? y = some o := fun {y o} e n1 n2 => by
    refine hidT_get e ?_
    cases q : H y with
    | none => rfl
    | some u =>
      exfalso
      rcases lawHp_cases q with ⟨e1, _⟩ | ⟨e1, _⟩
      · rw [e1, ht] at e
        cases e
        exact n2 rfl
      · rw [e1, ha] at e
        cases e
        exact n1 _ _ rfl
  have shownD : ∀ {y : Addr} {o : Obj} {es : Array DictEntry} {ep : Nat}, s.heap.get? y = some o → o.data = .dict es ep → (hidT s.heap H).get? y = some o := fun {y o es ep} e d => shown e (fun l n z => by rw [d] at z; cases z) (fun z => by rw [d] at z; cases z)
  have ns' : ∀ {y : Addr} {m : Str → Option Value}, s.heap.Ns y m → (hidT s.heap H).Ns y m := fun {y m} z => by
    obtain ⟨o, es, ep, e, d, more⟩ := z
    exact ⟨o, es, ep, shownD e d, d, more⟩
  have kin : K.In (hidT s.heap H) := fun y o e => by
    refine hidT_get (hK y o e) ?_
    cases q : H y with
    | none => rfl
    | some u =>
      exfalso
      rcases lawHp_cases q with ⟨e1, _⟩ | ⟨e1, _, ka, _⟩
      · rw [e1, kt] at e
        cases e
      · rw [e1, ka] at e
        cases e
  have mod : L2.Mod K mg (hidT s.heap H) := by
    refine ⟨kin, ns' g, ⟨mb, ns' b, bb⟩, ?_⟩
    obtain ⟨mc, z1, z2⟩ := nl
    exact ⟨mc, ns' z1, z2⟩
  have tab : TabB (hidT s.heap H) mg c t := by
    refine ⟨?_, ?_, fun z => ?_⟩
    · obtain ⟨o, us, file, tf, flags, tg, inF, text, tt, e1, q1, q2, q3, more⟩ := hc
      refine ⟨o, us, file, tf, flags, tg, inF, text, tt, shown e1 (fun l n z => by rw [q2] at z; cases z) (fun z => ?_), q1, q2, q3, more⟩
      rw [q2] at z
      cases z
      simp at q3
    · obtain ⟨m, om, q1, q2, q3, q4, q5, q6⟩ := bm
      refine ⟨m, om, q1, q2, fun z => ?_, fun z => ?_, shown q3 (fun l n z => by rw [q6] at z; cases z) (fun z => by rw [q6] at z; cases z), q4, q5, q6⟩
      · obtain ⟨o, es, ep, e, d, _⟩ := g
        rw [z, e] at q3
        cases q3
        rw [d] at q6
        cases q6
      · rw [z, ht] at q3
        cases q3
        cases q6
    · obtain ⟨o, es, ep, e, d, _⟩ := g
      rw [z, ht] at e
      cases e
      cases d
  have env : Env0 P w K mg (hidT s.heap H) callerA [] s H := ⟨rfl, mod, fun y o e => of_hidT e, Nat.le_of_eq (hidT_size _ _), trivial, (fun y z => by cases z), held, .of_eq gens⟩
  obtain ⟨f, fd, ps, FG, hm, _, hb⟩ := (F _ kin (ns' g) tab).ex
  rw [hx] at hm
  cases hm
  have pre := hsp H Ht seq
  have bind := hb s [.ref a] hK (by rw [List.append_nil]; exact FG.len _ _ _ _ pre)
  rw [List.append_nil] at bind
  refine codeAny_mono (FG.go callerA rfl [] s H [.ref a] [.ref a] _ _ hr env bind (.cons rfl .nil) pre) fun res s' out => ?_
  match res, out with
  | .error e, out => exact (hCX H e s' out).elim
  | .ok (.ret u), ⟨v, H', os, bare, un, held', rv, q⟩ =>
    have q : v = .bl true := q
    subst q
    obtain rfl : u = Value.bool true := rv
    obtain ⟨more, Ht'⟩ := un.tbls t #[] Ht
    have grown : s'.heap.get? t = some { cls := .none, data := .fields (#[] ++ more) } := held' t _ Ht'
    have stays : ∀ y o, y ≠ t → s.heap.get? y = some o → s'.heap.get? y = some o := fun y o ne e => by
      cases q : H y with
      | none => exact un.keep y o e q (fun z => by cases z) (fun z => by cases z)
      | some u =>
        rcases lawHp_cases q with ⟨e1, _⟩ | ⟨e1, _, _, e2⟩
        · exact absurd e1 ne
        · rw [e2] at q
          obtain ⟨z, _⟩ := held' y _ (un.frzs y _ _ q)
          rw [e1, ha] at e
          cases e
          exact z
    refine ⟨rfl, ⟨fun y o e => ?_, fun y o e => ?_⟩, os, bare⟩
    · by_cases ne : y = t
      · rw [ne] at e ⊢
        rw [ht] at e
        cases e
        exact .inr (.inl ⟨(hc.tab ht).isCodeTable, rfl, #[], more, rfl, grown⟩)
      · exact .inl (stays y o ne e)
    · by_cases ne : y = t
      · rw [ne]
        exact ⟨_, grown⟩
      · exact ⟨o, stays y o ne e⟩
end K5
set_option maxHeartbeats 4000000
namespace K5
open PySem PySem.Spec PyProof.Rows L2 LamX
theorem tupAt_ok {K : PySem.W.Frag} {a : Addr} {vs : List V} (h : tupAt K a vs = true) (H : Hp) : SqT K H a vs := by
  unfold tupAt at h
  cases q : K.lookup a with
  | none => rw [q] at h; cases h
  | some o =>
    obtain ⟨oc, od, dt, sl⟩ := o
    rw [q] at h
    cases oc with
    | type c =>
      cases dt with
      | seq its n =>
        obtain ⟨h1, h2⟩ := He.ba h
        obtain ⟨h3, h4⟩ := He.ba h2
        exact .inr ⟨_, its, n, q, congrArg Value.type (of_decide_eq_true h1), rfl, of_decide_eq_true h3, He.relAll_ok h4⟩
      | _ => cases h
    | _ => cases dt <;> cases h
theorem boundB_ok {K : PySem.W.Frag} {p : Str × Int × Int} (h : boundB K p = true) : ∃ a, PySem.W.nsIn K (He.ga K "BOUNDS") p.1 = some (some (.ref a)) ∧ ∀ H : Hp, SqT K H a [.int p.2.1, .int p.2.2] := by
  unfold boundB at h
  cases q : PySem.W.nsIn K (He.ga K "BOUNDS") p.1 with
  | none => rw [q] at h; cases h
  | some r =>
    rw [q] at h
    cases r with
    | none => cases h
    | some v =>
      cases v with
      | ref a => exact ⟨a, rfl, fun H => tupAt_ok h H⟩
      | _ => cases h
section
variable {w : World} {K : PySem.W.Frag} {h : Heap} {mg : Str → Option Value}
theorem defAt_of (c : He.SaysD fa fn K) (X : K.In h) (G : h.Ns mainGlobals mg) {x : Str} {st : Stmt} (m : (⟨(x, none), x, x, defArgs st, defBody st, defScope st, [], []⟩ : He.DefD) ∈ fn) (g : He.Fa.glo x ∈ fa) : DefAt K mg x st := by
  obtain ⟨fd, F⟩ := c.defs m
  exact ⟨He.fAd K (x, none), fd, F, He.glo_ok X G (c.facts g)⟩
theorem defAtC_of (c : He.SaysD fa fn K) (X : K.In h) (G : h.Ns mainGlobals mg) {x : Str} {st : Stmt} (m : (⟨(x, none), x, x, defArgs st, defBody st, defScope st, [], []⟩ : He.DefD) ∈ fn) (g : He.Fa.glo x ∈ fa) : DefAtC K mg x st (He.codeOf K (x, none)) := by
  obtain ⟨fd, F⟩ := c.defs m
  refine ⟨He.fAd K (x, none), fd, F, He.glo_ok X G (c.facts g), ?_⟩
  obtain ⟨oc, od, dV, kV, doc, pm, an, cdv, ct, osl, e, lk, hcd, _, _⟩ := F.ex
  obtain ⟨q, rfl⟩ := He.codeIn_ref hcd
  have e2 : fd.code = .ref q := by rw [e]
  rw [e2, He.codeOf_eq lk e2]
theorem metAt_of (c : He.SaysD fa fn K) {C m q : Str} {st : Stmt} (d : (⟨(C, some m), m, q, defArgs st, defBody st, defScope st, [], []⟩ : He.DefD) ∈ fn) (gc : He.Fa.cls C ∈ fa) (gm : He.Fa.meth C m ∈ fa) : MetAt K (He.ga K C) m q st := by
  obtain ⟨fd, F⟩ := c.defs d
  exact ⟨He.fAd K (C, some m), fd, F, He.cls_ok (c.facts gc), He.meth_ok (c.facts gm)⟩
theorem makAt_of (c : He.SaysD fa fn K) (X : K.In h) (G : h.Ns mainGlobals mg) {C q : Str} {st : Stmt} (d : (⟨(C, some "__init__"), "__init__", q, defArgs st, defBody st, defScope st, [], []⟩ : He.DefD) ∈ fn) (gm : He.Fa.mkr C ∈ fa) (gg : He.Fa.glo C ∈ fa) : MakAt K mg (He.ga K C) C q st := by
  obtain ⟨fd, F⟩ := c.defs d
  exact ⟨He.fAd K (C, some "__init__"), fd, F, He.mkr_ok (c.facts gm), He.glo_ok X G (c.facts gg)⟩
theorem txt_of (X : K.In h) (G : h.Ns mainGlobals mg) (c : He.SaysX fa fn tsH tfH exB w h K) : Nonempty (Txt w K mg) := by
  have cd := c.t.d
  have hx : ((exL K).all fun b => b) = true := c.more
  obtain ⟨eP, nP, hP⟩ := c.t.tab 0 (t := ((fun K => He.ga K "PARTS"), ksP)) rfl
  obtain ⟨eB, nB, hB⟩ := c.t.tab 1 (t := ((fun K => He.ga K "BOUNDS"), ksB)) rfl
  exact ⟨{
    cTerm := He.ga K "Term"
    cBooks := He.ga K "Books"
    cLedger := He.ga K "Ledger"
    bA := He.ga K "BARRED"
    kP := He.ga K "PARTS"
    kB := He.ga K "BOUNDS"
    eP := eP
    eB := eB
    nP := nP
    nB := nB
    eRollError := He.ga K "RollError"
    eBadName := He.ga K "BadName"
    eBadSum := He.ga K "BadSum"
    eBadWeights := He.ga K "BadWeights"
    eBadHalf := He.ga K "BadHalf"
    eBadDay := He.ga K "BadDay"
    eBadCounty := He.ga K "BadCounty"
    eBadExcused := He.ga K "BadExcused"
    eBadAppeal := He.ga K "BadAppeal"
    eBadText := He.ga K "BadText"
    eBadDeed := He.ga K "BadDeed"
    eBadTerm := He.ga K "BadTerm"
    eBadPaper := He.ga K "BadPaper"
    eBadStory := He.ga K "BadStory"
    d_is_whole := defAt_of cd X G (x := "is_whole") (st := top 20) (List.mem_append_left _ (List.mem_iff_getElem?.mpr ⟨0, rfl⟩)) (List.mem_append_left _ (List.mem_iff_getElem?.mpr ⟨0, rfl⟩))
    d_is_name := defAt_of cd X G (x := "is_name") (st := top 21) (List.mem_append_left _ (List.mem_iff_getElem?.mpr ⟨1, rfl⟩)) (List.mem_append_left _ (List.mem_iff_getElem?.mpr ⟨1, rfl⟩))
    d_is_holding := defAt_of cd X G (x := "is_holding") (st := top 29) (List.mem_append_left _ (List.mem_iff_getElem?.mpr ⟨2, rfl⟩)) (List.mem_append_left _ (List.mem_iff_getElem?.mpr ⟨2, rfl⟩))
    d_is_house := defAt_of cd X G (x := "is_house") (st := top 30) (List.mem_append_left _ (List.mem_iff_getElem?.mpr ⟨3, rfl⟩)) (List.mem_append_left _ (List.mem_iff_getElem?.mpr ⟨3, rfl⟩))
    d_is_parish := defAt_of cd X G (x := "is_parish") (st := top 31) (List.mem_append_left _ (List.mem_iff_getElem?.mpr ⟨4, rfl⟩)) (List.mem_append_left _ (List.mem_iff_getElem?.mpr ⟨4, rfl⟩))
    d_all_houses := defAt_of cd X G (x := "all_houses") (st := top 32) (List.mem_append_left _ (List.mem_iff_getElem?.mpr ⟨5, rfl⟩)) (List.mem_append_left _ (List.mem_iff_getElem?.mpr ⟨5, rfl⟩))
    d_are_unlike := defAt_of cd X G (x := "are_unlike") (st := top 33) (List.mem_append_left _ (List.mem_iff_getElem?.mpr ⟨6, rfl⟩)) (List.mem_append_left _ (List.mem_iff_getElem?.mpr ⟨6, rfl⟩))
    d_is_county := defAt_of cd X G (x := "is_county") (st := top 34) (List.mem_append_left _ (List.mem_iff_getElem?.mpr ⟨7, rfl⟩)) (List.mem_append_left _ (List.mem_iff_getElem?.mpr ⟨7, rfl⟩))
    d_need_county := defAt_of cd X G (x := "need_county") (st := top 35) (List.mem_append_left _ (List.mem_iff_getElem?.mpr ⟨8, rfl⟩)) (List.mem_append_left _ (List.mem_iff_getElem?.mpr ⟨8, rfl⟩))
    d_need_name := defAt_of cd X G (x := "need_name") (st := top 36) (List.mem_append_left _ (List.mem_iff_getElem?.mpr ⟨9, rfl⟩)) (List.mem_append_left _ (List.mem_iff_getElem?.mpr ⟨9, rfl⟩))
    d_worth_so := defAt_of cd X G (x := "worth_so") (st := top 37) (List.mem_append_right _ (List.mem_append_left _ (List.mem_iff_getElem?.mpr ⟨0, rfl⟩))) (List.mem_append_right _ (List.mem_append_left _ (List.mem_iff_getElem?.mpr ⟨0, rfl⟩)))
    d_days_in := defAt_of cd X G (x := "days_in") (st := top 38) (List.mem_append_right _ (List.mem_append_left _ (List.mem_iff_getElem?.mpr ⟨1, rfl⟩))) (List.mem_append_right _ (List.mem_append_left _ (List.mem_iff_getElem?.mpr ⟨1, rfl⟩)))
    d_empty_so := defAt_of cd X G (x := "empty_so") (st := top 39) (List.mem_append_right _ (List.mem_append_left _ (List.mem_iff_getElem?.mpr ⟨2, rfl⟩))) (List.mem_append_right _ (List.mem_append_left _ (List.mem_iff_getElem?.mpr ⟨2, rfl⟩)))
    d_need_sum := defAt_of cd X G (x := "need_sum") (st := top 42) (List.mem_append_right _ (List.mem_append_left _ (List.mem_iff_getElem?.mpr ⟨3, rfl⟩))) (List.mem_append_right _ (List.mem_append_left _ (List.mem_iff_getElem?.mpr ⟨3, rfl⟩)))
    d_share_out := defAt_of cd X G (x := "share_out") (st := top 43) (List.mem_append_right _ (List.mem_append_left _ (List.mem_iff_getElem?.mpr ⟨4, rfl⟩))) (List.mem_append_right _ (List.mem_append_left _ (List.mem_iff_getElem?.mpr ⟨4, rfl⟩)))
    d_are_excused := defAt_of cd X G (x := "are_excused") (st := top 46) (List.mem_append_right _ (List.mem_append_left _ (List.mem_iff_getElem?.mpr ⟨5, rfl⟩))) (List.mem_append_right _ (List.mem_append_left _ (List.mem_iff_getElem?.mpr ⟨5, rfl⟩)))
    d_need_excused := defAt_of cd X G (x := "need_excused") (st := top 47) (List.mem_append_right _ (List.mem_append_left _ (List.mem_iff_getElem?.mpr ⟨6, rfl⟩))) (List.mem_append_right _ (List.mem_append_left _ (List.mem_iff_getElem?.mpr ⟨6, rfl⟩)))
    d_sums_of_parishes := defAt_of cd X G (x := "sums_of_parishes") (st := top 48) (List.mem_append_right _ (List.mem_append_left _ (List.mem_iff_getElem?.mpr ⟨7, rfl⟩))) (List.mem_append_right _ (List.mem_append_left _ (List.mem_iff_getElem?.mpr ⟨7, rfl⟩)))
    d_sums_of_houses := defAt_of cd X G (x := "sums_of_houses") (st := top 49) (List.mem_append_right _ (List.mem_append_left _ (List.mem_iff_getElem?.mpr ⟨8, rfl⟩))) (List.mem_append_right _ (List.mem_append_left _ (List.mem_iff_getElem?.mpr ⟨8, rfl⟩)))
    d_parts_so := defAt_of cd X G (x := "parts_so") (st := top 50) (List.mem_append_right _ (List.mem_append_left _ (List.mem_iff_getElem?.mpr ⟨9, rfl⟩))) (List.mem_append_right _ (List.mem_append_left _ (List.mem_iff_getElem?.mpr ⟨9, rfl⟩)))
    d_all_parts := defAt_of cd X G (x := "all_parts") (st := top 51) (List.mem_append_right _ (List.mem_append_right _ (List.mem_append_left _ (List.mem_iff_getElem?.mpr ⟨0, rfl⟩)))) (List.mem_append_right _ (List.mem_append_right _ (List.mem_append_left _ (List.mem_iff_getElem?.mpr ⟨0, rfl⟩))))
    d_need_asked := defAt_of cd X G (x := "need_asked") (st := top 52) (List.mem_append_right _ (List.mem_append_right _ (List.mem_append_left _ (List.mem_iff_getElem?.mpr ⟨1, rfl⟩)))) (List.mem_append_right _ (List.mem_append_right _ (List.mem_append_left _ (List.mem_iff_getElem?.mpr ⟨1, rfl⟩))))
    d_lost := defAt_of cd X G (x := "lost") (st := top 53) (List.mem_append_right _ (List.mem_append_right _ (List.mem_append_left _ (List.mem_iff_getElem?.mpr ⟨2, rfl⟩)))) (List.mem_append_right _ (List.mem_append_right _ (List.mem_append_left _ (List.mem_iff_getElem?.mpr ⟨2, rfl⟩))))
    d_with_worth := defAt_of cd X G (x := "with_worth") (st := top 55) (List.mem_append_right _ (List.mem_append_right _ (List.mem_append_left _ (List.mem_iff_getElem?.mpr ⟨3, rfl⟩)))) (List.mem_append_right _ (List.mem_append_right _ (List.mem_append_left _ (List.mem_iff_getElem?.mpr ⟨3, rfl⟩))))
    d_won_so := defAt_of cd X G (x := "won_so") (st := top 56) (List.mem_append_right _ (List.mem_append_right _ (List.mem_append_left _ (List.mem_iff_getElem?.mpr ⟨4, rfl⟩)))) (List.mem_append_right _ (List.mem_append_right _ (List.mem_append_left _ (List.mem_iff_getElem?.mpr ⟨4, rfl⟩))))
    d_changed := defAt_of cd X G (x := "changed") (st := top 57) (List.mem_append_right _ (List.mem_append_right _ (List.mem_append_left _ (List.mem_iff_getElem?.mpr ⟨5, rfl⟩)))) (List.mem_append_right _ (List.mem_append_right _ (List.mem_append_left _ (List.mem_iff_getElem?.mpr ⟨5, rfl⟩))))
    d_need := defAt_of cd X G (x := "need") (st := top 59) (List.mem_append_right _ (List.mem_append_right _ (List.mem_append_left _ (List.mem_iff_getElem?.mpr ⟨6, rfl⟩)))) (List.mem_append_right _ (List.mem_append_right _ (List.mem_append_left _ (List.mem_iff_getElem?.mpr ⟨6, rfl⟩))))
    d_Term_init := makAt_of cd X G (C := "Term") (q := "Term.__init__") (st := inClass (top 60) 0) (List.mem_append_right _ (List.mem_append_right _ (List.mem_append_left _ (List.mem_iff_getElem?.mpr ⟨7, rfl⟩)))) (List.mem_append_right _ (List.mem_append_right _ (List.mem_append_right _ (List.mem_append_right _ (List.mem_append_right _ (List.mem_append_right _ (List.mem_append_right _ (List.mem_append_right _ (List.mem_append_right _ (List.mem_append_left _ (List.mem_iff_getElem?.mpr ⟨5, rfl⟩))))))))))) (List.mem_append_right _ (List.mem_append_right _ (List.mem_append_right _ (List.mem_append_right _ (List.mem_append_right _ (List.mem_append_right _ (List.mem_append_left _ (List.mem_iff_getElem?.mpr ⟨7, rfl⟩))))))))
    d_Term_in_hand := metAt_of cd (C := "Term") (m := "in_hand") (q := "Term.in_hand") (st := inClass (top 60) 1) (List.mem_append_right _ (List.mem_append_right _ (List.mem_append_left _ (List.mem_iff_getElem?.mpr ⟨8, rfl⟩)))) (List.mem_append_right _ (List.mem_append_right _ (List.mem_append_right _ (List.mem_append_right _ (List.mem_append_right _ (List.mem_append_right _ (List.mem_append_left _ (List.mem_iff_getElem?.mpr ⟨8, rfl⟩)))))))) (List.mem_append_right _ (List.mem_append_right _ (List.mem_append_right _ (List.mem_append_right _ (List.mem_append_right _ (List.mem_append_right _ (List.mem_append_right _ (List.mem_append_left _ (List.mem_iff_getElem?.mpr ⟨3, rfl⟩)))))))))
    d_Books_init := makAt_of cd X G (C := "Books") (q := "Books.__init__") (st := inClass (top 61) 0) (List.mem_append_right _ (List.mem_append_right _ (List.mem_append_left _ (List.mem_iff_getElem?.mpr ⟨9, rfl⟩)))) (List.mem_append_right _ (List.mem_append_right _ (List.mem_append_right _ (List.mem_append_right _ (List.mem_append_right _ (List.mem_append_right _ (List.mem_append_right _ (List.mem_append_right _ (List.mem_append_right _ (List.mem_append_left _ (List.mem_iff_getElem?.mpr ⟨6, rfl⟩))))))))))) (List.mem_append_right _ (List.mem_append_right _ (List.mem_append_right _ (List.mem_append_right _ (List.mem_append_right _ (List.mem_append_right _ (List.mem_append_left _ (List.mem_iff_getElem?.mpr ⟨9, rfl⟩))))))))
    d_Books_other := metAt_of cd (C := "Books") (m := "other") (q := "Books.other") (st := inClass (top 61) 1) (List.mem_append_right _ (List.mem_append_right _ (List.mem_append_right _ (List.mem_append_left _ (List.mem_iff_getElem?.mpr ⟨0, rfl⟩))))) (List.mem_append_right _ (List.mem_append_right _ (List.mem_append_right _ (List.mem_append_right _ (List.mem_append_right _ (List.mem_append_right _ (List.mem_append_right _ (List.mem_append_left _ (List.mem_iff_getElem?.mpr ⟨0, rfl⟩))))))))) (List.mem_append_right _ (List.mem_append_right _ (List.mem_append_right _ (List.mem_append_right _ (List.mem_append_right _ (List.mem_append_right _ (List.mem_append_right _ (List.mem_append_left _ (List.mem_iff_getElem?.mpr ⟨4, rfl⟩)))))))))
    d_Books_rows_of_half := metAt_of cd (C := "Books") (m := "rows_of_half") (q := "Books.rows_of_half") (st := inClass (top 61) 2) (List.mem_append_right _ (List.mem_append_right _ (List.mem_append_right _ (List.mem_append_left _ (List.mem_iff_getElem?.mpr ⟨1, rfl⟩))))) (List.mem_append_right _ (List.mem_append_right _ (List.mem_append_right _ (List.mem_append_right _ (List.mem_append_right _ (List.mem_append_right _ (List.mem_append_right _ (List.mem_append_left _ (List.mem_iff_getElem?.mpr ⟨0, rfl⟩))))))))) (List.mem_append_right _ (List.mem_append_right _ (List.mem_append_right _ (List.mem_append_right _ (List.mem_append_right _ (List.mem_append_right _ (List.mem_append_right _ (List.mem_append_left _ (List.mem_iff_getElem?.mpr ⟨5, rfl⟩)))))))))
    d_Books_all_rows := metAt_of cd (C := "Books") (m := "all_rows") (q := "Books.all_rows") (st := inClass (top 61) 3) (List.mem_append_right _ (List.mem_append_right _ (List.mem_append_right _ (List.mem_append_left _ (List.mem_iff_getElem?.mpr ⟨2, rfl⟩))))) (List.mem_append_right _ (List.mem_append_right _ (List.mem_append_right _ (List.mem_append_right _ (List.mem_append_right _ (List.mem_append_right _ (List.mem_append_right _ (List.mem_append_left _ (List.mem_iff_getElem?.mpr ⟨0, rfl⟩))))))))) (List.mem_append_right _ (List.mem_append_right _ (List.mem_append_right _ (List.mem_append_right _ (List.mem_append_right _ (List.mem_append_right _ (List.mem_append_right _ (List.mem_append_left _ (List.mem_iff_getElem?.mpr ⟨6, rfl⟩)))))))))
    d_Books_paid_by := metAt_of cd (C := "Books") (m := "paid_by") (q := "Books.paid_by") (st := inClass (top 61) 4) (List.mem_append_right _ (List.mem_append_right _ (List.mem_append_right _ (List.mem_append_left _ (List.mem_iff_getElem?.mpr ⟨3, rfl⟩))))) (List.mem_append_right _ (List.mem_append_right _ (List.mem_append_right _ (List.mem_append_right _ (List.mem_append_right _ (List.mem_append_right _ (List.mem_append_right _ (List.mem_append_left _ (List.mem_iff_getElem?.mpr ⟨0, rfl⟩))))))))) (List.mem_append_right _ (List.mem_append_right _ (List.mem_append_right _ (List.mem_append_right _ (List.mem_append_right _ (List.mem_append_right _ (List.mem_append_right _ (List.mem_append_left _ (List.mem_iff_getElem?.mpr ⟨7, rfl⟩)))))))))
    d_Books_account_of := metAt_of cd (C := "Books") (m := "account_of") (q := "Books.account_of") (st := inClass (top 61) 5) (List.mem_append_right _ (List.mem_append_right _ (List.mem_append_right _ (List.mem_append_left _ (List.mem_iff_getElem?.mpr ⟨4, rfl⟩))))) (List.mem_append_right _ (List.mem_append_right _ (List.mem_append_right _ (List.mem_append_right _ (List.mem_append_right _ (List.mem_append_right _ (List.mem_append_right _ (List.mem_append_left _ (List.mem_iff_getElem?.mpr ⟨0, rfl⟩))))))))) (List.mem_append_right _ (List.mem_append_right _ (List.mem_append_right _ (List.mem_append_right _ (List.mem_append_right _ (List.mem_append_right _ (List.mem_append_right _ (List.mem_append_left _ (List.mem_iff_getElem?.mpr ⟨8, rfl⟩)))))))))
    d_Books_all_holders := metAt_of cd (C := "Books") (m := "all_holders") (q := "Books.all_holders") (st := inClass (top 61) 6) (List.mem_append_right _ (List.mem_append_right _ (List.mem_append_right _ (List.mem_append_left _ (List.mem_iff_getElem?.mpr ⟨5, rfl⟩))))) (List.mem_append_right _ (List.mem_append_right _ (List.mem_append_right _ (List.mem_append_right _ (List.mem_append_right _ (List.mem_append_right _ (List.mem_append_right _ (List.mem_append_left _ (List.mem_iff_getElem?.mpr ⟨0, rfl⟩))))))))) (List.mem_append_right _ (List.mem_append_right _ (List.mem_append_right _ (List.mem_append_right _ (List.mem_append_right _ (List.mem_append_right _ (List.mem_append_right _ (List.mem_append_left _ (List.mem_iff_getElem?.mpr ⟨9, rfl⟩)))))))))
    d_Books_term_of := metAt_of cd (C := "Books") (m := "term_of") (q := "Books.term_of") (st := inClass (top 61) 7) (List.mem_append_right _ (List.mem_append_right _ (List.mem_append_right _ (List.mem_append_left _ (List.mem_iff_getElem?.mpr ⟨6, rfl⟩))))) (List.mem_append_right _ (List.mem_append_right _ (List.mem_append_right _ (List.mem_append_right _ (List.mem_append_right _ (List.mem_append_right _ (List.mem_append_right _ (List.mem_append_left _ (List.mem_iff_getElem?.mpr ⟨0, rfl⟩))))))))) (List.mem_append_right _ (List.mem_append_right _ (List.mem_append_right _ (List.mem_append_right _ (List.mem_append_right _ (List.mem_append_right _ (List.mem_append_right _ (List.mem_append_right _ (List.mem_append_left _ (List.mem_iff_getElem?.mpr ⟨0, rfl⟩))))))))))
    d_Books_with_term := metAt_of cd (C := "Books") (m := "with_term") (q := "Books.with_term") (st := inClass (top 61) 8) (List.mem_append_right _ (List.mem_append_right _ (List.mem_append_right _ (List.mem_append_left _ (List.mem_iff_getElem?.mpr ⟨7, rfl⟩))))) (List.mem_append_right _ (List.mem_append_right _ (List.mem_append_right _ (List.mem_append_right _ (List.mem_append_right _ (List.mem_append_right _ (List.mem_append_right _ (List.mem_append_left _ (List.mem_iff_getElem?.mpr ⟨0, rfl⟩))))))))) (List.mem_append_right _ (List.mem_append_right _ (List.mem_append_right _ (List.mem_append_right _ (List.mem_append_right _ (List.mem_append_right _ (List.mem_append_right _ (List.mem_append_right _ (List.mem_append_left _ (List.mem_iff_getElem?.mpr ⟨1, rfl⟩))))))))))
    d_is_part := defAt_of cd X G (x := "is_part") (st := top 68) (List.mem_append_right _ (List.mem_append_right _ (List.mem_append_right _ (List.mem_append_left _ (List.mem_iff_getElem?.mpr ⟨8, rfl⟩))))) (List.mem_append_right _ (List.mem_append_right _ (List.mem_append_left _ (List.mem_iff_getElem?.mpr ⟨7, rfl⟩))))
    d_has_deed_form := defAt_of cd X G (x := "has_deed_form") (st := top 69) (List.mem_append_right _ (List.mem_append_right _ (List.mem_append_right _ (List.mem_append_left _ (List.mem_iff_getElem?.mpr ⟨9, rfl⟩))))) (List.mem_append_right _ (List.mem_append_right _ (List.mem_append_left _ (List.mem_iff_getElem?.mpr ⟨8, rfl⟩))))
    d_with_holdings := defAt_of cd X G (x := "with_holdings") (st := top 72) (List.mem_append_right _ (List.mem_append_right _ (List.mem_append_right _ (List.mem_append_right _ (List.mem_append_left _ (List.mem_iff_getElem?.mpr ⟨0, rfl⟩)))))) (List.mem_append_right _ (List.mem_append_right _ (List.mem_append_left _ (List.mem_iff_getElem?.mpr ⟨9, rfl⟩))))
    d_house_in := defAt_of cd X G (x := "house_in") (st := top 73) (List.mem_append_right _ (List.mem_append_right _ (List.mem_append_right _ (List.mem_append_right _ (List.mem_append_left _ (List.mem_iff_getElem?.mpr ⟨1, rfl⟩)))))) (List.mem_append_right _ (List.mem_append_right _ (List.mem_append_right _ (List.mem_append_left _ (List.mem_iff_getElem?.mpr ⟨0, rfl⟩)))))
    d_come_in := defAt_of cd X G (x := "come_in") (st := top 74) (List.mem_append_right _ (List.mem_append_right _ (List.mem_append_right _ (List.mem_append_right _ (List.mem_append_left _ (List.mem_iff_getElem?.mpr ⟨2, rfl⟩)))))) (List.mem_append_right _ (List.mem_append_right _ (List.mem_append_right _ (List.mem_append_left _ (List.mem_iff_getElem?.mpr ⟨1, rfl⟩)))))
    d_go_out := defAt_of cd X G (x := "go_out") (st := top 75) (List.mem_append_right _ (List.mem_append_right _ (List.mem_append_right _ (List.mem_append_right _ (List.mem_append_left _ (List.mem_iff_getElem?.mpr ⟨3, rfl⟩)))))) (List.mem_append_right _ (List.mem_append_right _ (List.mem_append_right _ (List.mem_append_left _ (List.mem_iff_getElem?.mpr ⟨2, rfl⟩)))))
    d_do_day := defAt_of cd X G (x := "do_day") (st := top 76) (List.mem_append_right _ (List.mem_append_right _ (List.mem_append_right _ (List.mem_append_right _ (List.mem_append_left _ (List.mem_iff_getElem?.mpr ⟨4, rfl⟩)))))) (List.mem_append_right _ (List.mem_append_right _ (List.mem_append_right _ (List.mem_append_left _ (List.mem_iff_getElem?.mpr ⟨3, rfl⟩)))))
    d_do_people := defAt_of cd X G (x := "do_people") (st := top 77) (List.mem_append_right _ (List.mem_append_right _ (List.mem_append_right _ (List.mem_append_right _ (List.mem_append_left _ (List.mem_iff_getElem?.mpr ⟨5, rfl⟩)))))) (List.mem_append_right _ (List.mem_append_right _ (List.mem_append_right _ (List.mem_append_left _ (List.mem_iff_getElem?.mpr ⟨4, rfl⟩)))))
    d_do_worth := defAt_of cd X G (x := "do_worth") (st := top 78) (List.mem_append_right _ (List.mem_append_right _ (List.mem_append_right _ (List.mem_append_right _ (List.mem_append_left _ (List.mem_iff_getElem?.mpr ⟨6, rfl⟩)))))) (List.mem_append_right _ (List.mem_append_right _ (List.mem_append_right _ (List.mem_append_left _ (List.mem_iff_getElem?.mpr ⟨5, rfl⟩)))))
    d_do_demand := defAt_of cd X G (x := "do_demand") (st := top 79) (List.mem_append_right _ (List.mem_append_right _ (List.mem_append_right _ (List.mem_append_right _ (List.mem_append_left _ (List.mem_iff_getElem?.mpr ⟨7, rfl⟩)))))) (List.mem_append_right _ (List.mem_append_right _ (List.mem_append_right _ (List.mem_append_left _ (List.mem_iff_getElem?.mpr ⟨6, rfl⟩)))))
    d_do_close := defAt_of cd X G (x := "do_close") (st := top 80) (List.mem_append_right _ (List.mem_append_right _ (List.mem_append_right _ (List.mem_append_right _ (List.mem_append_left _ (List.mem_iff_getElem?.mpr ⟨8, rfl⟩)))))) (List.mem_append_right _ (List.mem_append_right _ (List.mem_append_right _ (List.mem_append_left _ (List.mem_iff_getElem?.mpr ⟨7, rfl⟩)))))
    d_do_term := defAt_of cd X G (x := "do_term") (st := top 81) (List.mem_append_right _ (List.mem_append_right _ (List.mem_append_right _ (List.mem_append_right _ (List.mem_append_left _ (List.mem_iff_getElem?.mpr ⟨9, rfl⟩)))))) (List.mem_append_right _ (List.mem_append_right _ (List.mem_append_right _ (List.mem_append_left _ (List.mem_iff_getElem?.mpr ⟨8, rfl⟩)))))
    d_do_pay := defAt_of cd X G (x := "do_pay") (st := top 82) (List.mem_append_right _ (List.mem_append_right _ (List.mem_append_right _ (List.mem_append_right _ (List.mem_append_right _ (List.mem_append_left _ (List.mem_iff_getElem?.mpr ⟨0, rfl⟩))))))) (List.mem_append_right _ (List.mem_append_right _ (List.mem_append_right _ (List.mem_append_left _ (List.mem_iff_getElem?.mpr ⟨9, rfl⟩)))))
    d_do_hand := defAt_of cd X G (x := "do_hand") (st := top 83) (List.mem_append_right _ (List.mem_append_right _ (List.mem_append_right _ (List.mem_append_right _ (List.mem_append_right _ (List.mem_append_left _ (List.mem_iff_getElem?.mpr ⟨1, rfl⟩))))))) (List.mem_append_right _ (List.mem_append_right _ (List.mem_append_right _ (List.mem_append_right _ (List.mem_append_left _ (List.mem_iff_getElem?.mpr ⟨0, rfl⟩))))))
    d_led := defAt_of cd X G (x := "led") (st := top 84) (List.mem_append_right _ (List.mem_append_right _ (List.mem_append_right _ (List.mem_append_right _ (List.mem_append_right _ (List.mem_append_left _ (List.mem_iff_getElem?.mpr ⟨2, rfl⟩))))))) (List.mem_append_right _ (List.mem_append_right _ (List.mem_append_right _ (List.mem_append_right _ (List.mem_append_left _ (List.mem_iff_getElem?.mpr ⟨1, rfl⟩))))))
    d_Ledger_init := makAt_of cd X G (C := "Ledger") (q := "Ledger.__init__") (st := inClass (top 85) 0) (List.mem_append_right _ (List.mem_append_right _ (List.mem_append_right _ (List.mem_append_right _ (List.mem_append_right _ (List.mem_append_left _ (List.mem_iff_getElem?.mpr ⟨3, rfl⟩))))))) (List.mem_append_right _ (List.mem_append_right _ (List.mem_append_right _ (List.mem_append_right _ (List.mem_append_right _ (List.mem_append_right _ (List.mem_append_right _ (List.mem_append_right _ (List.mem_append_right _ (List.mem_append_left _ (List.mem_iff_getElem?.mpr ⟨7, rfl⟩))))))))))) (List.mem_append_right _ (List.mem_append_right _ (List.mem_append_right _ (List.mem_append_right _ (List.mem_append_right _ (List.mem_append_right _ (List.mem_append_right _ (List.mem_append_left _ (List.mem_iff_getElem?.mpr ⟨1, rfl⟩)))))))))
    d_Ledger_do := metAt_of cd (C := "Ledger") (m := "do") (q := "Ledger.do") (st := inClass (top 85) 1) (List.mem_append_right _ (List.mem_append_right _ (List.mem_append_right _ (List.mem_append_right _ (List.mem_append_right _ (List.mem_append_left _ (List.mem_iff_getElem?.mpr ⟨4, rfl⟩))))))) (List.mem_append_right _ (List.mem_append_right _ (List.mem_append_right _ (List.mem_append_right _ (List.mem_append_right _ (List.mem_append_right _ (List.mem_append_right _ (List.mem_append_left _ (List.mem_iff_getElem?.mpr ⟨2, rfl⟩))))))))) (List.mem_append_right _ (List.mem_append_right _ (List.mem_append_right _ (List.mem_append_right _ (List.mem_append_right _ (List.mem_append_right _ (List.mem_append_right _ (List.mem_append_right _ (List.mem_append_left _ (List.mem_iff_getElem?.mpr ⟨2, rfl⟩))))))))))
    d_Ledger_year := metAt_of cd (C := "Ledger") (m := "year") (q := "Ledger.year") (st := inClass (top 85) 3) (List.mem_append_right _ (List.mem_append_right _ (List.mem_append_right _ (List.mem_append_right _ (List.mem_append_right _ (List.mem_append_left _ (List.mem_iff_getElem?.mpr ⟨5, rfl⟩))))))) (List.mem_append_right _ (List.mem_append_right _ (List.mem_append_right _ (List.mem_append_right _ (List.mem_append_right _ (List.mem_append_right _ (List.mem_append_right _ (List.mem_append_left _ (List.mem_iff_getElem?.mpr ⟨2, rfl⟩))))))))) (List.mem_append_right _ (List.mem_append_right _ (List.mem_append_right _ (List.mem_append_right _ (List.mem_append_right _ (List.mem_append_right _ (List.mem_append_right _ (List.mem_append_right _ (List.mem_append_left _ (List.mem_iff_getElem?.mpr ⟨3, rfl⟩))))))))))
    d_Ledger_day := metAt_of cd (C := "Ledger") (m := "day") (q := "Ledger.day") (st := inClass (top 85) 4) (List.mem_append_right _ (List.mem_append_right _ (List.mem_append_right _ (List.mem_append_right _ (List.mem_append_right _ (List.mem_append_left _ (List.mem_iff_getElem?.mpr ⟨6, rfl⟩))))))) (List.mem_append_right _ (List.mem_append_right _ (List.mem_append_right _ (List.mem_append_right _ (List.mem_append_right _ (List.mem_append_right _ (List.mem_append_right _ (List.mem_append_left _ (List.mem_iff_getElem?.mpr ⟨2, rfl⟩))))))))) (List.mem_append_right _ (List.mem_append_right _ (List.mem_append_right _ (List.mem_append_right _ (List.mem_append_right _ (List.mem_append_right _ (List.mem_append_right _ (List.mem_append_right _ (List.mem_append_left _ (List.mem_iff_getElem?.mpr ⟨4, rfl⟩))))))))))
    d_Ledger_county := metAt_of cd (C := "Ledger") (m := "county") (q := "Ledger.county") (st := inClass (top 85) 5) (List.mem_append_right _ (List.mem_append_right _ (List.mem_append_right _ (List.mem_append_right _ (List.mem_append_right _ (List.mem_append_left _ (List.mem_iff_getElem?.mpr ⟨7, rfl⟩))))))) (List.mem_append_right _ (List.mem_append_right _ (List.mem_append_right _ (List.mem_append_right _ (List.mem_append_right _ (List.mem_append_right _ (List.mem_append_right _ (List.mem_append_left _ (List.mem_iff_getElem?.mpr ⟨2, rfl⟩))))))))) (List.mem_append_right _ (List.mem_append_right _ (List.mem_append_right _ (List.mem_append_right _ (List.mem_append_right _ (List.mem_append_right _ (List.mem_append_right _ (List.mem_append_right _ (List.mem_append_left _ (List.mem_iff_getElem?.mpr ⟨5, rfl⟩))))))))))
    d_Ledger_total := metAt_of cd (C := "Ledger") (m := "total") (q := "Ledger.total") (st := inClass (top 85) 6) (List.mem_append_right _ (List.mem_append_right _ (List.mem_append_right _ (List.mem_append_right _ (List.mem_append_right _ (List.mem_append_left _ (List.mem_iff_getElem?.mpr ⟨8, rfl⟩))))))) (List.mem_append_right _ (List.mem_append_right _ (List.mem_append_right _ (List.mem_append_right _ (List.mem_append_right _ (List.mem_append_right _ (List.mem_append_right _ (List.mem_append_left _ (List.mem_iff_getElem?.mpr ⟨2, rfl⟩))))))))) (List.mem_append_right _ (List.mem_append_right _ (List.mem_append_right _ (List.mem_append_right _ (List.mem_append_right _ (List.mem_append_right _ (List.mem_append_right _ (List.mem_append_right _ (List.mem_append_left _ (List.mem_iff_getElem?.mpr ⟨6, rfl⟩))))))))))
    d_Ledger_excused := metAt_of cd (C := "Ledger") (m := "excused") (q := "Ledger.excused") (st := inClass (top 85) 7) (List.mem_append_right _ (List.mem_append_right _ (List.mem_append_right _ (List.mem_append_right _ (List.mem_append_right _ (List.mem_append_left _ (List.mem_iff_getElem?.mpr ⟨9, rfl⟩))))))) (List.mem_append_right _ (List.mem_append_right _ (List.mem_append_right _ (List.mem_append_right _ (List.mem_append_right _ (List.mem_append_right _ (List.mem_append_right _ (List.mem_append_left _ (List.mem_iff_getElem?.mpr ⟨2, rfl⟩))))))))) (List.mem_append_right _ (List.mem_append_right _ (List.mem_append_right _ (List.mem_append_right _ (List.mem_append_right _ (List.mem_append_right _ (List.mem_append_right _ (List.mem_append_right _ (List.mem_append_left _ (List.mem_iff_getElem?.mpr ⟨7, rfl⟩))))))))))
    d_Ledger_demanded := metAt_of cd (C := "Ledger") (m := "demanded") (q := "Ledger.demanded") (st := inClass (top 85) 8) (List.mem_append_right _ (List.mem_append_right _ (List.mem_append_right _ (List.mem_append_right _ (List.mem_append_right _ (List.mem_append_right _ (List.mem_append_left _ (List.mem_iff_getElem?.mpr ⟨0, rfl⟩)))))))) (List.mem_append_right _ (List.mem_append_right _ (List.mem_append_right _ (List.mem_append_right _ (List.mem_append_right _ (List.mem_append_right _ (List.mem_append_right _ (List.mem_append_left _ (List.mem_iff_getElem?.mpr ⟨2, rfl⟩))))))))) (List.mem_append_right _ (List.mem_append_right _ (List.mem_append_right _ (List.mem_append_right _ (List.mem_append_right _ (List.mem_append_right _ (List.mem_append_right _ (List.mem_append_right _ (List.mem_append_left _ (List.mem_iff_getElem?.mpr ⟨8, rfl⟩))))))))))
    d_Ledger_due := metAt_of cd (C := "Ledger") (m := "due") (q := "Ledger.due") (st := inClass (top 85) 9) (List.mem_append_right _ (List.mem_append_right _ (List.mem_append_right _ (List.mem_append_right _ (List.mem_append_right _ (List.mem_append_right _ (List.mem_append_left _ (List.mem_iff_getElem?.mpr ⟨1, rfl⟩)))))))) (List.mem_append_right _ (List.mem_append_right _ (List.mem_append_right _ (List.mem_append_right _ (List.mem_append_right _ (List.mem_append_right _ (List.mem_append_right _ (List.mem_append_left _ (List.mem_iff_getElem?.mpr ⟨2, rfl⟩))))))))) (List.mem_append_right _ (List.mem_append_right _ (List.mem_append_right _ (List.mem_append_right _ (List.mem_append_right _ (List.mem_append_right _ (List.mem_append_right _ (List.mem_append_right _ (List.mem_append_left _ (List.mem_iff_getElem?.mpr ⟨9, rfl⟩))))))))))
    d_Ledger_need_parish := metAt_of cd (C := "Ledger") (m := "need_parish") (q := "Ledger.need_parish") (st := inClass (top 85) 12) (List.mem_append_right _ (List.mem_append_right _ (List.mem_append_right _ (List.mem_append_right _ (List.mem_append_right _ (List.mem_append_right _ (List.mem_append_left _ (List.mem_iff_getElem?.mpr ⟨2, rfl⟩)))))))) (List.mem_append_right _ (List.mem_append_right _ (List.mem_append_right _ (List.mem_append_right _ (List.mem_append_right _ (List.mem_append_right _ (List.mem_append_right _ (List.mem_append_left _ (List.mem_iff_getElem?.mpr ⟨2, rfl⟩))))))))) (List.mem_append_right _ (List.mem_append_right _ (List.mem_append_right _ (List.mem_append_right _ (List.mem_append_right _ (List.mem_append_right _ (List.mem_append_right _ (List.mem_append_right _ (List.mem_append_right _ (List.mem_append_left _ (List.mem_iff_getElem?.mpr ⟨0, rfl⟩)))))))))))
    d_Ledger_terms := metAt_of cd (C := "Ledger") (m := "terms") (q := "Ledger.terms") (st := inClass (top 85) 13) (List.mem_append_right _ (List.mem_append_right _ (List.mem_append_right _ (List.mem_append_right _ (List.mem_append_right _ (List.mem_append_right _ (List.mem_append_left _ (List.mem_iff_getElem?.mpr ⟨3, rfl⟩)))))))) (List.mem_append_right _ (List.mem_append_right _ (List.mem_append_right _ (List.mem_append_right _ (List.mem_append_right _ (List.mem_append_right _ (List.mem_append_right _ (List.mem_append_left _ (List.mem_iff_getElem?.mpr ⟨2, rfl⟩))))))))) (List.mem_append_right _ (List.mem_append_right _ (List.mem_append_right _ (List.mem_append_right _ (List.mem_append_right _ (List.mem_append_right _ (List.mem_append_right _ (List.mem_append_right _ (List.mem_append_right _ (List.mem_append_left _ (List.mem_iff_getElem?.mpr ⟨1, rfl⟩)))))))))))
    d_Ledger_term_told := metAt_of cd (C := "Ledger") (m := "term_told") (q := "Ledger.term_told") (st := inClass (top 85) 14) (List.mem_append_right _ (List.mem_append_right _ (List.mem_append_right _ (List.mem_append_right _ (List.mem_append_right _ (List.mem_append_right _ (List.mem_append_left _ (List.mem_iff_getElem?.mpr ⟨4, rfl⟩)))))))) (List.mem_append_right _ (List.mem_append_right _ (List.mem_append_right _ (List.mem_append_right _ (List.mem_append_right _ (List.mem_append_right _ (List.mem_append_right _ (List.mem_append_left _ (List.mem_iff_getElem?.mpr ⟨2, rfl⟩))))))))) (List.mem_append_right _ (List.mem_append_right _ (List.mem_append_right _ (List.mem_append_right _ (List.mem_append_right _ (List.mem_append_right _ (List.mem_append_right _ (List.mem_append_right _ (List.mem_append_right _ (List.mem_append_left _ (List.mem_iff_getElem?.mpr ⟨2, rfl⟩)))))))))))
    d_Ledger_hand := metAt_of cd (C := "Ledger") (m := "hand") (q := "Ledger.hand") (st := inClass (top 85) 16) (List.mem_append_right _ (List.mem_append_right _ (List.mem_append_right _ (List.mem_append_right _ (List.mem_append_right _ (List.mem_append_right _ (List.mem_append_left _ (List.mem_iff_getElem?.mpr ⟨5, rfl⟩)))))))) (List.mem_append_right _ (List.mem_append_right _ (List.mem_append_right _ (List.mem_append_right _ (List.mem_append_right _ (List.mem_append_right _ (List.mem_append_right _ (List.mem_append_left _ (List.mem_iff_getElem?.mpr ⟨2, rfl⟩))))))))) (List.mem_append_right _ (List.mem_append_right _ (List.mem_append_right _ (List.mem_append_right _ (List.mem_append_right _ (List.mem_append_right _ (List.mem_append_right _ (List.mem_append_right _ (List.mem_append_right _ (List.mem_append_left _ (List.mem_iff_getElem?.mpr ⟨3, rfl⟩)))))))))))
    d_Ledger_copy := metAt_of cd (C := "Ledger") (m := "copy") (q := "Ledger.copy") (st := inClass (top 85) 21) (List.mem_append_right _ (List.mem_append_right _ (List.mem_append_right _ (List.mem_append_right _ (List.mem_append_right _ (List.mem_append_right _ (List.mem_append_left _ (List.mem_iff_getElem?.mpr ⟨6, rfl⟩)))))))) (List.mem_append_right _ (List.mem_append_right _ (List.mem_append_right _ (List.mem_append_right _ (List.mem_append_right _ (List.mem_append_right _ (List.mem_append_right _ (List.mem_append_left _ (List.mem_iff_getElem?.mpr ⟨2, rfl⟩))))))))) (List.mem_append_right _ (List.mem_append_right _ (List.mem_append_right _ (List.mem_append_right _ (List.mem_append_right _ (List.mem_append_right _ (List.mem_append_right _ (List.mem_append_right _ (List.mem_append_right _ (List.mem_append_left _ (List.mem_iff_getElem?.mpr ⟨4, rfl⟩)))))))))))
    d__law_mixed := defAt_of cd X G (x := "_law_mixed") (st := top 87) (List.mem_append_right _ (List.mem_append_right _ (List.mem_append_right _ (List.mem_append_right _ (List.mem_append_right _ (List.mem_append_right _ (List.mem_append_left _ (List.mem_iff_getElem?.mpr ⟨7, rfl⟩)))))))) (List.mem_append_right _ (List.mem_append_right _ (List.mem_append_right _ (List.mem_append_right _ (List.mem_append_left _ (List.mem_iff_getElem?.mpr ⟨2, rfl⟩))))))
    d__law_folded := defAt_of cd X G (x := "_law_folded") (st := top 88) (List.mem_append_right _ (List.mem_append_right _ (List.mem_append_right _ (List.mem_append_right _ (List.mem_append_right _ (List.mem_append_right _ (List.mem_append_left _ (List.mem_iff_getElem?.mpr ⟨8, rfl⟩)))))))) (List.mem_append_right _ (List.mem_append_right _ (List.mem_append_right _ (List.mem_append_right _ (List.mem_append_left _ (List.mem_iff_getElem?.mpr ⟨3, rfl⟩))))))
    d__law_draw := defAt_of cd X G (x := "_law_draw") (st := top 89) (List.mem_append_right _ (List.mem_append_right _ (List.mem_append_right _ (List.mem_append_right _ (List.mem_append_right _ (List.mem_append_right _ (List.mem_append_left _ (List.mem_iff_getElem?.mpr ⟨9, rfl⟩)))))))) (List.mem_append_right _ (List.mem_append_right _ (List.mem_append_right _ (List.mem_append_right _ (List.mem_append_left _ (List.mem_iff_getElem?.mpr ⟨4, rfl⟩))))))
    d__law_begun := defAt_of cd X G (x := "_law_begun") (st := top 90) (List.mem_append_right _ (List.mem_append_right _ (List.mem_append_right _ (List.mem_append_right _ (List.mem_append_right _ (List.mem_append_right _ (List.mem_append_right _ (List.mem_append_left _ (List.mem_iff_getElem?.mpr ⟨0, rfl⟩))))))))) (List.mem_append_right _ (List.mem_append_right _ (List.mem_append_right _ (List.mem_append_right _ (List.mem_append_left _ (List.mem_iff_getElem?.mpr ⟨5, rfl⟩))))))
    d__law_called := defAt_of cd X G (x := "_law_called") (st := top 91) (List.mem_append_right _ (List.mem_append_right _ (List.mem_append_right _ (List.mem_append_right _ (List.mem_append_right _ (List.mem_append_right _ (List.mem_append_right _ (List.mem_append_left _ (List.mem_iff_getElem?.mpr ⟨1, rfl⟩))))))))) (List.mem_append_right _ (List.mem_append_right _ (List.mem_append_right _ (List.mem_append_right _ (List.mem_append_left _ (List.mem_iff_getElem?.mpr ⟨6, rfl⟩))))))
    d__law_people := defAt_of cd X G (x := "_law_people") (st := top 92) (List.mem_append_right _ (List.mem_append_right _ (List.mem_append_right _ (List.mem_append_right _ (List.mem_append_right _ (List.mem_append_right _ (List.mem_append_right _ (List.mem_append_left _ (List.mem_iff_getElem?.mpr ⟨2, rfl⟩))))))))) (List.mem_append_right _ (List.mem_append_right _ (List.mem_append_right _ (List.mem_append_right _ (List.mem_append_left _ (List.mem_iff_getElem?.mpr ⟨7, rfl⟩))))))
    d__law_holdings := defAt_of cd X G (x := "_law_holdings") (st := top 93) (List.mem_append_right _ (List.mem_append_right _ (List.mem_append_right _ (List.mem_append_right _ (List.mem_append_right _ (List.mem_append_right _ (List.mem_append_right _ (List.mem_append_left _ (List.mem_iff_getElem?.mpr ⟨3, rfl⟩))))))))) (List.mem_append_right _ (List.mem_append_right _ (List.mem_append_right _ (List.mem_append_right _ (List.mem_append_left _ (List.mem_iff_getElem?.mpr ⟨8, rfl⟩))))))
    d__law_worth := defAt_of cd X G (x := "_law_worth") (st := top 94) (List.mem_append_right _ (List.mem_append_right _ (List.mem_append_right _ (List.mem_append_right _ (List.mem_append_right _ (List.mem_append_right _ (List.mem_append_right _ (List.mem_append_left _ (List.mem_iff_getElem?.mpr ⟨4, rfl⟩))))))))) (List.mem_append_right _ (List.mem_append_right _ (List.mem_append_right _ (List.mem_append_right _ (List.mem_append_left _ (List.mem_iff_getElem?.mpr ⟨9, rfl⟩))))))
    d__law_county := defAt_of cd X G (x := "_law_county") (st := top 95) (List.mem_append_right _ (List.mem_append_right _ (List.mem_append_right _ (List.mem_append_right _ (List.mem_append_right _ (List.mem_append_right _ (List.mem_append_right _ (List.mem_append_left _ (List.mem_iff_getElem?.mpr ⟨5, rfl⟩))))))))) (List.mem_append_right _ (List.mem_append_right _ (List.mem_append_right _ (List.mem_append_right _ (List.mem_append_right _ (List.mem_append_left _ (List.mem_iff_getElem?.mpr ⟨0, rfl⟩)))))))
    d__law_sum := defAt_of cd X G (x := "_law_sum") (st := top 96) (List.mem_append_right _ (List.mem_append_right _ (List.mem_append_right _ (List.mem_append_right _ (List.mem_append_right _ (List.mem_append_right _ (List.mem_append_right _ (List.mem_append_left _ (List.mem_iff_getElem?.mpr ⟨6, rfl⟩))))))))) (List.mem_append_right _ (List.mem_append_right _ (List.mem_append_right _ (List.mem_append_right _ (List.mem_append_right _ (List.mem_append_left _ (List.mem_iff_getElem?.mpr ⟨1, rfl⟩)))))))
    d__law_excused := defAt_of cd X G (x := "_law_excused") (st := top 97) (List.mem_append_right _ (List.mem_append_right _ (List.mem_append_right _ (List.mem_append_right _ (List.mem_append_right _ (List.mem_append_right _ (List.mem_append_right _ (List.mem_append_left _ (List.mem_iff_getElem?.mpr ⟨7, rfl⟩))))))))) (List.mem_append_right _ (List.mem_append_right _ (List.mem_append_right _ (List.mem_append_right _ (List.mem_append_right _ (List.mem_append_left _ (List.mem_iff_getElem?.mpr ⟨2, rfl⟩)))))))
    d__law_worths := defAt_of cd X G (x := "_law_worths") (st := top 98) (List.mem_append_right _ (List.mem_append_right _ (List.mem_append_right _ (List.mem_append_right _ (List.mem_append_right _ (List.mem_append_right _ (List.mem_append_right _ (List.mem_append_left _ (List.mem_iff_getElem?.mpr ⟨8, rfl⟩))))))))) (List.mem_append_right _ (List.mem_append_right _ (List.mem_append_right _ (List.mem_append_right _ (List.mem_append_right _ (List.mem_append_left _ (List.mem_iff_getElem?.mpr ⟨3, rfl⟩)))))))
    d__law_deed := defAt_of cd X G (x := "_law_deed") (st := top 99) (List.mem_append_right _ (List.mem_append_right _ (List.mem_append_right _ (List.mem_append_right _ (List.mem_append_right _ (List.mem_append_right _ (List.mem_append_right _ (List.mem_append_left _ (List.mem_iff_getElem?.mpr ⟨9, rfl⟩))))))))) (List.mem_append_right _ (List.mem_append_right _ (List.mem_append_right _ (List.mem_append_right _ (List.mem_append_right _ (List.mem_append_left _ (List.mem_iff_getElem?.mpr ⟨4, rfl⟩)))))))
    d__law_any := defAt_of cd X G (x := "_law_any") (st := top 100) (List.mem_append_right _ (List.mem_append_right _ (List.mem_append_right _ (List.mem_append_right _ (List.mem_append_right _ (List.mem_append_right _ (List.mem_append_right _ (List.mem_append_right _ (List.mem_append_left _ (List.mem_iff_getElem?.mpr ⟨0, rfl⟩)))))))))) (List.mem_append_right _ (List.mem_append_right _ (List.mem_append_right _ (List.mem_append_right _ (List.mem_append_right _ (List.mem_append_left _ (List.mem_iff_getElem?.mpr ⟨5, rfl⟩)))))))
    d__law_opened := defAt_of cd X G (x := "_law_opened") (st := top 101) (List.mem_append_right _ (List.mem_append_right _ (List.mem_append_right _ (List.mem_append_right _ (List.mem_append_right _ (List.mem_append_right _ (List.mem_append_right _ (List.mem_append_right _ (List.mem_append_left _ (List.mem_iff_getElem?.mpr ⟨1, rfl⟩)))))))))) (List.mem_append_right _ (List.mem_append_right _ (List.mem_append_right _ (List.mem_append_right _ (List.mem_append_right _ (List.mem_append_left _ (List.mem_iff_getElem?.mpr ⟨6, rfl⟩)))))))
    d__law_told := defAt_of cd X G (x := "_law_told") (st := top 102) (List.mem_append_right _ (List.mem_append_right _ (List.mem_append_right _ (List.mem_append_right _ (List.mem_append_right _ (List.mem_append_right _ (List.mem_append_right _ (List.mem_append_right _ (List.mem_append_left _ (List.mem_iff_getElem?.mpr ⟨2, rfl⟩)))))))))) (List.mem_append_right _ (List.mem_append_right _ (List.mem_append_right _ (List.mem_append_right _ (List.mem_append_right _ (List.mem_append_left _ (List.mem_iff_getElem?.mpr ⟨7, rfl⟩)))))))
    d__law_near := defAt_of cd X G (x := "_law_near") (st := top 103) (List.mem_append_right _ (List.mem_append_right _ (List.mem_append_right _ (List.mem_append_right _ (List.mem_append_right _ (List.mem_append_right _ (List.mem_append_right _ (List.mem_append_right _ (List.mem_append_left _ (List.mem_iff_getElem?.mpr ⟨3, rfl⟩)))))))))) (List.mem_append_right _ (List.mem_append_right _ (List.mem_append_right _ (List.mem_append_right _ (List.mem_append_right _ (List.mem_append_left _ (List.mem_iff_getElem?.mpr ⟨8, rfl⟩)))))))
    d__law_owed := defAt_of cd X G (x := "_law_owed") (st := top 104) (List.mem_append_right _ (List.mem_append_right _ (List.mem_append_right _ (List.mem_append_right _ (List.mem_append_right _ (List.mem_append_right _ (List.mem_append_right _ (List.mem_append_right _ (List.mem_append_left _ (List.mem_iff_getElem?.mpr ⟨4, rfl⟩)))))))))) (List.mem_append_right _ (List.mem_append_right _ (List.mem_append_right _ (List.mem_append_right _ (List.mem_append_right _ (List.mem_append_left _ (List.mem_iff_getElem?.mpr ⟨9, rfl⟩)))))))
    d__law_house_right := defAt_of cd X G (x := "_law_house_right") (st := top 105) (List.mem_append_right _ (List.mem_append_right _ (List.mem_append_right _ (List.mem_append_right _ (List.mem_append_right _ (List.mem_append_right _ (List.mem_append_right _ (List.mem_append_right _ (List.mem_append_left _ (List.mem_iff_getElem?.mpr ⟨5, rfl⟩)))))))))) (List.mem_append_right _ (List.mem_append_right _ (List.mem_append_right _ (List.mem_append_right _ (List.mem_append_right _ (List.mem_append_right _ (List.mem_append_left _ (List.mem_iff_getElem?.mpr ⟨0, rfl⟩))))))))
    d__law_year_right := defAt_of cd X G (x := "_law_year_right") (st := top 106) (List.mem_append_right _ (List.mem_append_right _ (List.mem_append_right _ (List.mem_append_right _ (List.mem_append_right _ (List.mem_append_right _ (List.mem_append_right _ (List.mem_append_right _ (List.mem_append_left _ (List.mem_iff_getElem?.mpr ⟨6, rfl⟩)))))))))) (List.mem_append_right _ (List.mem_append_right _ (List.mem_append_right _ (List.mem_append_right _ (List.mem_append_right _ (List.mem_append_right _ (List.mem_append_left _ (List.mem_iff_getElem?.mpr ⟨1, rfl⟩))))))))
    d__law_asked_right := defAt_of cd X G (x := "_law_asked_right") (st := top 107) (List.mem_append_right _ (List.mem_append_right _ (List.mem_append_right _ (List.mem_append_right _ (List.mem_append_right _ (List.mem_append_right _ (List.mem_append_right _ (List.mem_append_right _ (List.mem_append_left _ (List.mem_iff_getElem?.mpr ⟨7, rfl⟩)))))))))) (List.mem_append_right _ (List.mem_append_right _ (List.mem_append_right _ (List.mem_append_right _ (List.mem_append_right _ (List.mem_append_right _ (List.mem_append_left _ (List.mem_iff_getElem?.mpr ⟨2, rfl⟩))))))))
    d__law_closed := defAt_of cd X G (x := "_law_closed") (st := top 108) (List.mem_append_right _ (List.mem_append_right _ (List.mem_append_right _ (List.mem_append_right _ (List.mem_append_right _ (List.mem_append_right _ (List.mem_append_right _ (List.mem_append_right _ (List.mem_append_left _ (List.mem_iff_getElem?.mpr ⟨8, rfl⟩)))))))))) (List.mem_append_right _ (List.mem_append_right _ (List.mem_append_right _ (List.mem_append_right _ (List.mem_append_right _ (List.mem_append_right _ (List.mem_append_left _ (List.mem_iff_getElem?.mpr ⟨3, rfl⟩))))))))
    d__law_going_right := defAt_of cd X G (x := "_law_going_right") (st := top 109) (List.mem_append_right _ (List.mem_append_right _ (List.mem_append_right _ (List.mem_append_right _ (List.mem_append_right _ (List.mem_append_right _ (List.mem_append_right _ (List.mem_append_right _ (List.mem_append_left _ (List.mem_iff_getElem?.mpr ⟨9, rfl⟩)))))))))) (List.mem_append_right _ (List.mem_append_right _ (List.mem_append_right _ (List.mem_append_right _ (List.mem_append_right _ (List.mem_append_right _ (List.mem_append_left _ (List.mem_iff_getElem?.mpr ⟨4, rfl⟩))))))))
    d__law_hand_right := defAt_of cd X G (x := "_law_hand_right") (st := top 110) (List.mem_append_right _ (List.mem_append_right _ (List.mem_append_right _ (List.mem_append_right _ (List.mem_append_right _ (List.mem_append_right _ (List.mem_append_right _ (List.mem_append_right _ (List.mem_append_right _ (List.mem_iff_getElem?.mpr ⟨0, rfl⟩)))))))))) (List.mem_append_right _ (List.mem_append_right _ (List.mem_append_right _ (List.mem_append_right _ (List.mem_append_right _ (List.mem_append_right _ (List.mem_append_left _ (List.mem_iff_getElem?.mpr ⟨5, rfl⟩))))))))
    d_law := defAt_of cd X G (x := "law") (st := top 111) (List.mem_append_right _ (List.mem_append_right _ (List.mem_append_right _ (List.mem_append_right _ (List.mem_append_right _ (List.mem_append_right _ (List.mem_append_right _ (List.mem_append_right _ (List.mem_append_right _ (List.mem_iff_getElem?.mpr ⟨1, rfl⟩)))))))))) (List.mem_append_right _ (List.mem_append_right _ (List.mem_append_right _ (List.mem_append_right _ (List.mem_append_right _ (List.mem_append_right _ (List.mem_append_left _ (List.mem_iff_getElem?.mpr ⟨6, rfl⟩))))))))
    f_len := He.free_ok X G (cd.facts (List.mem_append_right _ (List.mem_append_right _ (List.mem_append_right _ (List.mem_append_right _ (List.mem_append_right _ (List.mem_append_right _ (List.mem_append_right _ (List.mem_append_right _ (List.mem_append_right _ (List.mem_append_right _ (List.mem_append_right _ (List.mem_append_left _ (List.mem_iff_getElem?.mpr ⟨5, rfl⟩))))))))))))))
    f_sum := He.free_ok X G (cd.facts (List.mem_append_right _ (List.mem_append_right _ (List.mem_append_right _ (List.mem_append_right _ (List.mem_append_right _ (List.mem_append_right _ (List.mem_append_right _ (List.mem_append_right _ (List.mem_append_right _ (List.mem_append_right _ (List.mem_append_right _ (List.mem_append_left _ (List.mem_iff_getElem?.mpr ⟨6, rfl⟩))))))))))))))
    f_all := He.free_ok X G (cd.facts (List.mem_append_right _ (List.mem_append_right _ (List.mem_append_right _ (List.mem_append_right _ (List.mem_append_right _ (List.mem_append_right _ (List.mem_append_right _ (List.mem_append_right _ (List.mem_append_right _ (List.mem_append_right _ (List.mem_append_right _ (List.mem_append_left _ (List.mem_iff_getElem?.mpr ⟨7, rfl⟩))))))))))))))
    f_any := He.free_ok X G (cd.facts (List.mem_append_right _ (List.mem_append_right _ (List.mem_append_right _ (List.mem_append_right _ (List.mem_append_right _ (List.mem_append_right _ (List.mem_append_right _ (List.mem_append_right _ (List.mem_append_right _ (List.mem_append_right _ (List.mem_append_right _ (List.mem_append_left _ (List.mem_iff_getElem?.mpr ⟨8, rfl⟩))))))))))))))
    f_isinstance := He.free_ok X G (cd.facts (List.mem_append_right _ (List.mem_append_right _ (List.mem_append_right _ (List.mem_append_right _ (List.mem_append_right _ (List.mem_append_right _ (List.mem_append_right _ (List.mem_append_right _ (List.mem_append_right _ (List.mem_append_right _ (List.mem_append_right _ (List.mem_append_left _ (List.mem_iff_getElem?.mpr ⟨9, rfl⟩))))))))))))))
    f_int := He.free_ok X G (cd.facts (List.mem_append_right _ (List.mem_append_right _ (List.mem_append_right _ (List.mem_append_right _ (List.mem_append_right _ (List.mem_append_right _ (List.mem_append_right _ (List.mem_append_right _ (List.mem_append_right _ (List.mem_append_right _ (List.mem_append_right _ (List.mem_append_right _ (List.mem_append_left _ (List.mem_iff_getElem?.mpr ⟨0, rfl⟩)))))))))))))))
    f_str := He.free_ok X G (cd.facts (List.mem_append_right _ (List.mem_append_right _ (List.mem_append_right _ (List.mem_append_right _ (List.mem_append_right _ (List.mem_append_right _ (List.mem_append_right _ (List.mem_append_right _ (List.mem_append_right _ (List.mem_append_right _ (List.mem_append_right _ (List.mem_append_right _ (List.mem_append_left _ (List.mem_iff_getElem?.mpr ⟨1, rfl⟩)))))))))))))))
    f_tuple := He.free_ok X G (cd.facts (List.mem_append_right _ (List.mem_append_right _ (List.mem_append_right _ (List.mem_append_right _ (List.mem_append_right _ (List.mem_append_right _ (List.mem_append_right _ (List.mem_append_right _ (List.mem_append_right _ (List.mem_append_right _ (List.mem_append_right _ (List.mem_append_right _ (List.mem_append_left _ (List.mem_iff_getElem?.mpr ⟨2, rfl⟩)))))))))))))))
    f_bool := He.free_ok X G (cd.facts (List.mem_append_right _ (List.mem_append_right _ (List.mem_append_right _ (List.mem_append_right _ (List.mem_append_right _ (List.mem_append_right _ (List.mem_append_right _ (List.mem_append_right _ (List.mem_append_right _ (List.mem_append_right _ (List.mem_append_right _ (List.mem_append_right _ (List.mem_append_left _ (List.mem_iff_getElem?.mpr ⟨3, rfl⟩)))))))))))))))
    f_list := He.free_ok X G (cd.facts (List.mem_append_right _ (List.mem_append_right _ (List.mem_append_right _ (List.mem_append_right _ (List.mem_append_right _ (List.mem_append_right _ (List.mem_append_right _ (List.mem_append_right _ (List.mem_append_right _ (List.mem_append_right _ (List.mem_append_right _ (List.mem_append_right _ (List.mem_append_left _ (List.mem_iff_getElem?.mpr ⟨4, rfl⟩)))))))))))))))
    f_dict := He.free_ok X G (cd.facts (List.mem_append_right _ (List.mem_append_right _ (List.mem_append_right _ (List.mem_append_right _ (List.mem_append_right _ (List.mem_append_right _ (List.mem_append_right _ (List.mem_append_right _ (List.mem_append_right _ (List.mem_append_right _ (List.mem_append_right _ (List.mem_append_right _ (List.mem_append_left _ (List.mem_iff_getElem?.mpr ⟨5, rfl⟩)))))))))))))))
    f_set := He.free_ok X G (cd.facts (List.mem_append_right _ (List.mem_append_right _ (List.mem_append_right _ (List.mem_append_right _ (List.mem_append_right _ (List.mem_append_right _ (List.mem_append_right _ (List.mem_append_right _ (List.mem_append_right _ (List.mem_append_right _ (List.mem_append_right _ (List.mem_append_right _ (List.mem_append_left _ (List.mem_iff_getElem?.mpr ⟨6, rfl⟩)))))))))))))))
    f_sorted := He.free_ok X G (cd.facts (List.mem_append_right _ (List.mem_append_right _ (List.mem_append_right _ (List.mem_append_right _ (List.mem_append_right _ (List.mem_append_right _ (List.mem_append_right _ (List.mem_append_right _ (List.mem_append_right _ (List.mem_append_right _ (List.mem_append_right _ (List.mem_append_right _ (List.mem_append_left _ (List.mem_iff_getElem?.mpr ⟨7, rfl⟩)))))))))))))))
    f_zip := He.free_ok X G (cd.facts (List.mem_append_right _ (List.mem_append_right _ (List.mem_append_right _ (List.mem_append_right _ (List.mem_append_right _ (List.mem_append_right _ (List.mem_append_right _ (List.mem_append_right _ (List.mem_append_right _ (List.mem_append_right _ (List.mem_append_right _ (List.mem_append_right _ (List.mem_append_left _ (List.mem_iff_getElem?.mpr ⟨8, rfl⟩)))))))))))))))
    f_enumerate := He.free_ok X G (cd.facts (List.mem_append_right _ (List.mem_append_right _ (List.mem_append_right _ (List.mem_append_right _ (List.mem_append_right _ (List.mem_append_right _ (List.mem_append_right _ (List.mem_append_right _ (List.mem_append_right _ (List.mem_append_right _ (List.mem_append_right _ (List.mem_append_right _ (List.mem_append_left _ (List.mem_iff_getElem?.mpr ⟨9, rfl⟩)))))))))))))))
    f_range := He.free_ok X G (cd.facts (List.mem_append_right _ (List.mem_append_right _ (List.mem_append_right _ (List.mem_append_right _ (List.mem_append_right _ (List.mem_append_right _ (List.mem_append_right _ (List.mem_append_right _ (List.mem_append_right _ (List.mem_append_right _ (List.mem_append_right _ (List.mem_append_right _ (List.mem_append_right _ (List.mem_append_left _ (List.mem_iff_getElem?.mpr ⟨0, rfl⟩))))))))))))))))
    f_max := He.free_ok X G (cd.facts (List.mem_append_right _ (List.mem_append_right _ (List.mem_append_right _ (List.mem_append_right _ (List.mem_append_right _ (List.mem_append_right _ (List.mem_append_right _ (List.mem_append_right _ (List.mem_append_right _ (List.mem_append_right _ (List.mem_append_right _ (List.mem_append_right _ (List.mem_append_right _ (List.mem_append_left _ (List.mem_iff_getElem?.mpr ⟨1, rfl⟩))))))))))))))))
    f_min := He.free_ok X G (cd.facts (List.mem_append_right _ (List.mem_append_right _ (List.mem_append_right _ (List.mem_append_right _ (List.mem_append_right _ (List.mem_append_right _ (List.mem_append_right _ (List.mem_append_right _ (List.mem_append_right _ (List.mem_append_right _ (List.mem_append_right _ (List.mem_append_right _ (List.mem_append_right _ (List.mem_append_left _ (List.mem_iff_getElem?.mpr ⟨2, rfl⟩))))))))))))))))
    f_repr := He.free_ok X G (cd.facts (List.mem_append_right _ (List.mem_append_right _ (List.mem_append_right _ (List.mem_append_right _ (List.mem_append_right _ (List.mem_append_right _ (List.mem_append_right _ (List.mem_append_right _ (List.mem_append_right _ (List.mem_append_right _ (List.mem_append_right _ (List.mem_append_right _ (List.mem_append_right _ (List.mem_append_left _ (List.mem_iff_getElem?.mpr ⟨3, rfl⟩))))))))))))))))
    f_ValueError := He.free_ok X G (cd.facts (List.mem_append_right _ (List.mem_append_right _ (List.mem_append_right _ (List.mem_append_right _ (List.mem_append_right _ (List.mem_append_right _ (List.mem_append_right _ (List.mem_append_right _ (List.mem_append_right _ (List.mem_append_right _ (List.mem_append_right _ (List.mem_append_right _ (List.mem_append_right _ (List.mem_append_left _ (List.mem_iff_getElem?.mpr ⟨4, rfl⟩))))))))))))))))
    c_MOST_LETTERS := let ⟨t, e⟩ := He.int_ok X G (cd.facts (List.mem_append_right _ (List.mem_append_right _ (List.mem_append_right _ (List.mem_append_right _ (List.mem_append_right _ (List.mem_append_right _ (List.mem_append_right _ (List.mem_append_right _ (List.mem_append_right _ (List.mem_append_right _ (List.mem_append_right _ (List.mem_append_right _ (List.mem_append_right _ (List.mem_append_left _ (List.mem_iff_getElem?.mpr ⟨5, rfl⟩)))))))))))))))); ⟨_, e, t, rfl⟩
    c_LAST_DAY := let ⟨t, e⟩ := He.int_ok X G (cd.facts (List.mem_append_right _ (List.mem_append_right _ (List.mem_append_right _ (List.mem_append_right _ (List.mem_append_right _ (List.mem_append_right _ (List.mem_append_right _ (List.mem_append_right _ (List.mem_append_right _ (List.mem_append_right _ (List.mem_append_right _ (List.mem_append_right _ (List.mem_append_right _ (List.mem_append_left _ (List.mem_iff_getElem?.mpr ⟨6, rfl⟩)))))))))))))))); ⟨_, e, t, rfl⟩
    c_MOST_WORTH := let ⟨t, e⟩ := He.int_ok X G (cd.facts (List.mem_append_right _ (List.mem_append_right _ (List.mem_append_right _ (List.mem_append_right _ (List.mem_append_right _ (List.mem_append_right _ (List.mem_append_right _ (List.mem_append_right _ (List.mem_append_right _ (List.mem_append_right _ (List.mem_append_right _ (List.mem_append_right _ (List.mem_append_right _ (List.mem_append_left _ (List.mem_iff_getElem?.mpr ⟨7, rfl⟩)))))))))))))))); ⟨_, e, t, rfl⟩
    c_MOST_HOLDINGS := let ⟨t, e⟩ := He.int_ok X G (cd.facts (List.mem_append_right _ (List.mem_append_right _ (List.mem_append_right _ (List.mem_append_right _ (List.mem_append_right _ (List.mem_append_right _ (List.mem_append_right _ (List.mem_append_right _ (List.mem_append_right _ (List.mem_append_right _ (List.mem_append_right _ (List.mem_append_right _ (List.mem_append_right _ (List.mem_append_left _ (List.mem_iff_getElem?.mpr ⟨8, rfl⟩)))))))))))))))); ⟨_, e, t, rfl⟩
    c_MOST_IN_PARISH := let ⟨t, e⟩ := He.int_ok X G (cd.facts (List.mem_append_right _ (List.mem_append_right _ (List.mem_append_right _ (List.mem_append_right _ (List.mem_append_right _ (List.mem_append_right _ (List.mem_append_right _ (List.mem_append_right _ (List.mem_append_right _ (List.mem_append_right _ (List.mem_append_right _ (List.mem_append_right _ (List.mem_append_right _ (List.mem_append_left _ (List.mem_iff_getElem?.mpr ⟨9, rfl⟩)))))))))))))))); ⟨_, e, t, rfl⟩
    c_MOST_PARISHES := let ⟨t, e⟩ := He.int_ok X G (cd.facts (List.mem_append_right _ (List.mem_append_right _ (List.mem_append_right _ (List.mem_append_right _ (List.mem_append_right _ (List.mem_append_right _ (List.mem_append_right _ (List.mem_append_right _ (List.mem_append_right _ (List.mem_append_right _ (List.mem_append_right _ (List.mem_append_right _ (List.mem_append_right _ (List.mem_append_right _ (List.mem_append_left _ (List.mem_iff_getElem?.mpr ⟨0, rfl⟩))))))))))))))))); ⟨_, e, t, rfl⟩
    c_MOST_HOUSES := let ⟨t, e⟩ := He.int_ok X G (cd.facts (List.mem_append_right _ (List.mem_append_right _ (List.mem_append_right _ (List.mem_append_right _ (List.mem_append_right _ (List.mem_append_right _ (List.mem_append_right _ (List.mem_append_right _ (List.mem_append_right _ (List.mem_append_right _ (List.mem_append_right _ (List.mem_append_right _ (List.mem_append_right _ (List.mem_append_right _ (List.mem_append_left _ (List.mem_iff_getElem?.mpr ⟨1, rfl⟩))))))))))))))))); ⟨_, e, t, rfl⟩
    c_MOST_SUM := let ⟨t, e⟩ := He.int_ok X G (cd.facts (List.mem_append_right _ (List.mem_append_right _ (List.mem_append_right _ (List.mem_append_right _ (List.mem_append_right _ (List.mem_append_right _ (List.mem_append_right _ (List.mem_append_right _ (List.mem_append_right _ (List.mem_append_right _ (List.mem_append_right _ (List.mem_append_right _ (List.mem_append_right _ (List.mem_append_right _ (List.mem_append_left _ (List.mem_iff_getElem?.mpr ⟨2, rfl⟩))))))))))))))))); ⟨_, e, t, rfl⟩
    c_MOST_EXCUSED := let ⟨t, e⟩ := He.int_ok X G (cd.facts (List.mem_append_right _ (List.mem_append_right _ (List.mem_append_right _ (List.mem_append_right _ (List.mem_append_right _ (List.mem_append_right _ (List.mem_append_right _ (List.mem_append_right _ (List.mem_append_right _ (List.mem_append_right _ (List.mem_append_right _ (List.mem_append_right _ (List.mem_append_right _ (List.mem_append_right _ (List.mem_append_left _ (List.mem_iff_getElem?.mpr ⟨3, rfl⟩))))))))))))))))); ⟨_, e, t, rfl⟩
    c_MOST_TERMS := let ⟨t, e⟩ := He.int_ok X G (cd.facts (List.mem_append_right _ (List.mem_append_right _ (List.mem_append_right _ (List.mem_append_right _ (List.mem_append_right _ (List.mem_append_right _ (List.mem_append_right _ (List.mem_append_right _ (List.mem_append_right _ (List.mem_append_right _ (List.mem_append_right _ (List.mem_append_right _ (List.mem_append_right _ (List.mem_append_right _ (List.mem_append_left _ (List.mem_iff_getElem?.mpr ⟨4, rfl⟩))))))))))))))))); ⟨_, e, t, rfl⟩
    c_MOST_NUMBER := let ⟨t, e⟩ := He.int_ok X G (cd.facts (List.mem_append_right _ (List.mem_append_right _ (List.mem_append_right _ (List.mem_append_right _ (List.mem_append_right _ (List.mem_append_right _ (List.mem_append_right _ (List.mem_append_right _ (List.mem_append_right _ (List.mem_append_right _ (List.mem_append_right _ (List.mem_append_right _ (List.mem_append_right _ (List.mem_append_right _ (List.mem_append_left _ (List.mem_iff_getElem?.mpr ⟨5, rfl⟩))))))))))))))))); ⟨_, e, t, rfl⟩
    c_MOST_DEEDS := let ⟨t, e⟩ := He.int_ok X G (cd.facts (List.mem_append_right _ (List.mem_append_right _ (List.mem_append_right _ (List.mem_append_right _ (List.mem_append_right _ (List.mem_append_right _ (List.mem_append_right _ (List.mem_append_right _ (List.mem_append_right _ (List.mem_append_right _ (List.mem_append_right _ (List.mem_append_right _ (List.mem_append_right _ (List.mem_append_right _ (List.mem_append_left _ (List.mem_iff_getElem?.mpr ⟨6, rfl⟩))))))))))))))))); ⟨_, e, t, rfl⟩
    c_MOST_YEARS := let ⟨t, e⟩ := He.int_ok X G (cd.facts (List.mem_append_right _ (List.mem_append_right _ (List.mem_append_right _ (List.mem_append_right _ (List.mem_append_right _ (List.mem_append_right _ (List.mem_append_right _ (List.mem_append_right _ (List.mem_append_right _ (List.mem_append_right _ (List.mem_append_right _ (List.mem_append_right _ (List.mem_append_right _ (List.mem_append_right _ (List.mem_append_left _ (List.mem_iff_getElem?.mpr ⟨7, rfl⟩))))))))))))))))); ⟨_, e, t, rfl⟩
    c_LETTERS := let ⟨t, e⟩ := He.str_ok X G (cd.facts (List.mem_append_right _ (List.mem_append_right _ (List.mem_append_right _ (List.mem_append_right _ (List.mem_append_right _ (List.mem_append_right _ (List.mem_append_right _ (List.mem_append_right _ (List.mem_append_right _ (List.mem_append_right _ (List.mem_append_right _ (List.mem_append_right _ (List.mem_append_right _ (List.mem_append_right _ (List.mem_append_left _ (List.mem_iff_getElem?.mpr ⟨8, rfl⟩))))))))))))))))); ⟨_, e, t, rfl⟩
    c_BARRED := ⟨_, He.glo_ok X G (cd.facts (List.mem_append_right _ (List.mem_append_right _ (List.mem_append_right _ (List.mem_append_right _ (List.mem_append_right _ (List.mem_append_right _ (List.mem_append_right _ (List.mem_append_right _ (List.mem_append_right _ (List.mem_append_right _ (List.mem_append_right _ (List.mem_append_left _ (List.mem_iff_getElem?.mpr ⟨2, rfl⟩)))))))))))))), rfl⟩
    c_PARTS := ⟨_, He.glo_ok X G (cd.facts (List.mem_append_right _ (List.mem_append_right _ (List.mem_append_right _ (List.mem_append_right _ (List.mem_append_right _ (List.mem_append_right _ (List.mem_append_right _ (List.mem_append_right _ (List.mem_append_right _ (List.mem_append_right _ (List.mem_append_right _ (List.mem_append_left _ (List.mem_iff_getElem?.mpr ⟨3, rfl⟩)))))))))))))), rfl⟩
    c_BOUNDS := ⟨_, He.glo_ok X G (cd.facts (List.mem_append_right _ (List.mem_append_right _ (List.mem_append_right _ (List.mem_append_right _ (List.mem_append_right _ (List.mem_append_right _ (List.mem_append_right _ (List.mem_append_right _ (List.mem_append_right _ (List.mem_append_right _ (List.mem_append_right _ (List.mem_append_left _ (List.mem_iff_getElem?.mpr ⟨4, rfl⟩)))))))))))))), rfl⟩
    s_BARRED := fun H => tupAt_ok (List.all_eq_true.mp hx _ (List.mem_append_left _ (List.mem_iff_getElem?.mpr ⟨0, rfl⟩))) H
    k_PARTS := hP
    k_BOUNDS := hB
    t_PARTS := fun p hp => He.valsB_ok (List.all_eq_true.mp hx _ (List.mem_append_left _ (List.mem_iff_getElem?.mpr ⟨1, rfl⟩))) (q := (p.1, He.Dv.str p.2)) (List.mem_map_of_mem hp)
    t_BOUNDS := fun p hp => boundB_ok (List.all_eq_true.mp (List.all_eq_true.mp hx _ (List.mem_append_left _ (List.mem_iff_getElem?.mpr ⟨2, rfl⟩))) p hp)
    g_RollError := He.glo_ok X G (cd.facts (List.mem_append_right _ (List.mem_append_right _ (List.mem_append_right _ (List.mem_append_right _ (List.mem_append_right _ (List.mem_append_right _ (List.mem_append_right _ (List.mem_append_right _ (List.mem_append_right _ (List.mem_append_left _ (List.mem_iff_getElem?.mpr ⟨8, rfl⟩))))))))))))
    g_BadName := He.glo_ok X G (cd.facts (List.mem_append_right _ (List.mem_append_right _ (List.mem_append_right _ (List.mem_append_right _ (List.mem_append_right _ (List.mem_append_right _ (List.mem_append_right _ (List.mem_append_right _ (List.mem_append_right _ (List.mem_append_left _ (List.mem_iff_getElem?.mpr ⟨9, rfl⟩))))))))))))
    g_BadSum := He.glo_ok X G (cd.facts (List.mem_append_right _ (List.mem_append_right _ (List.mem_append_right _ (List.mem_append_right _ (List.mem_append_right _ (List.mem_append_right _ (List.mem_append_right _ (List.mem_append_right _ (List.mem_append_right _ (List.mem_append_right _ (List.mem_append_left _ (List.mem_iff_getElem?.mpr ⟨0, rfl⟩)))))))))))))
    g_BadWeights := He.glo_ok X G (cd.facts (List.mem_append_right _ (List.mem_append_right _ (List.mem_append_right _ (List.mem_append_right _ (List.mem_append_right _ (List.mem_append_right _ (List.mem_append_right _ (List.mem_append_right _ (List.mem_append_right _ (List.mem_append_right _ (List.mem_append_left _ (List.mem_iff_getElem?.mpr ⟨1, rfl⟩)))))))))))))
    g_BadHalf := He.glo_ok X G (cd.facts (List.mem_append_right _ (List.mem_append_right _ (List.mem_append_right _ (List.mem_append_right _ (List.mem_append_right _ (List.mem_append_right _ (List.mem_append_right _ (List.mem_append_right _ (List.mem_append_right _ (List.mem_append_right _ (List.mem_append_left _ (List.mem_iff_getElem?.mpr ⟨2, rfl⟩)))))))))))))
    g_BadDay := He.glo_ok X G (cd.facts (List.mem_append_right _ (List.mem_append_right _ (List.mem_append_right _ (List.mem_append_right _ (List.mem_append_right _ (List.mem_append_right _ (List.mem_append_right _ (List.mem_append_right _ (List.mem_append_right _ (List.mem_append_right _ (List.mem_append_left _ (List.mem_iff_getElem?.mpr ⟨3, rfl⟩)))))))))))))
    g_BadCounty := He.glo_ok X G (cd.facts (List.mem_append_right _ (List.mem_append_right _ (List.mem_append_right _ (List.mem_append_right _ (List.mem_append_right _ (List.mem_append_right _ (List.mem_append_right _ (List.mem_append_right _ (List.mem_append_right _ (List.mem_append_right _ (List.mem_append_left _ (List.mem_iff_getElem?.mpr ⟨4, rfl⟩)))))))))))))
    g_BadExcused := He.glo_ok X G (cd.facts (List.mem_append_right _ (List.mem_append_right _ (List.mem_append_right _ (List.mem_append_right _ (List.mem_append_right _ (List.mem_append_right _ (List.mem_append_right _ (List.mem_append_right _ (List.mem_append_right _ (List.mem_append_right _ (List.mem_append_left _ (List.mem_iff_getElem?.mpr ⟨5, rfl⟩)))))))))))))
    g_BadAppeal := He.glo_ok X G (cd.facts (List.mem_append_right _ (List.mem_append_right _ (List.mem_append_right _ (List.mem_append_right _ (List.mem_append_right _ (List.mem_append_right _ (List.mem_append_right _ (List.mem_append_right _ (List.mem_append_right _ (List.mem_append_right _ (List.mem_append_left _ (List.mem_iff_getElem?.mpr ⟨6, rfl⟩)))))))))))))
    g_BadText := He.glo_ok X G (cd.facts (List.mem_append_right _ (List.mem_append_right _ (List.mem_append_right _ (List.mem_append_right _ (List.mem_append_right _ (List.mem_append_right _ (List.mem_append_right _ (List.mem_append_right _ (List.mem_append_right _ (List.mem_append_right _ (List.mem_append_left _ (List.mem_iff_getElem?.mpr ⟨7, rfl⟩)))))))))))))
    g_BadDeed := He.glo_ok X G (cd.facts (List.mem_append_right _ (List.mem_append_right _ (List.mem_append_right _ (List.mem_append_right _ (List.mem_append_right _ (List.mem_append_right _ (List.mem_append_right _ (List.mem_append_right _ (List.mem_append_right _ (List.mem_append_right _ (List.mem_append_left _ (List.mem_iff_getElem?.mpr ⟨8, rfl⟩)))))))))))))
    g_BadTerm := He.glo_ok X G (cd.facts (List.mem_append_right _ (List.mem_append_right _ (List.mem_append_right _ (List.mem_append_right _ (List.mem_append_right _ (List.mem_append_right _ (List.mem_append_right _ (List.mem_append_right _ (List.mem_append_right _ (List.mem_append_right _ (List.mem_append_left _ (List.mem_iff_getElem?.mpr ⟨9, rfl⟩)))))))))))))
    g_BadPaper := He.glo_ok X G (cd.facts (List.mem_append_right _ (List.mem_append_right _ (List.mem_append_right _ (List.mem_append_right _ (List.mem_append_right _ (List.mem_append_right _ (List.mem_append_right _ (List.mem_append_right _ (List.mem_append_right _ (List.mem_append_right _ (List.mem_append_right _ (List.mem_append_left _ (List.mem_iff_getElem?.mpr ⟨0, rfl⟩))))))))))))))
    g_BadStory := He.glo_ok X G (cd.facts (List.mem_append_right _ (List.mem_append_right _ (List.mem_append_right _ (List.mem_append_right _ (List.mem_append_right _ (List.mem_append_right _ (List.mem_append_right _ (List.mem_append_right _ (List.mem_append_right _ (List.mem_append_right _ (List.mem_append_right _ (List.mem_append_left _ (List.mem_iff_getElem?.mpr ⟨1, rfl⟩))))))))))))))
    x_BadDeed := (He.exc_ok (cd.facts (List.mem_append_right _ (List.mem_append_right _ (List.mem_append_right _ (List.mem_append_right _ (List.mem_append_right _ (List.mem_append_right _ (List.mem_append_right _ (List.mem_append_right _ (List.mem_append_right _ (List.mem_append_right _ (List.mem_append_right _ (List.mem_append_right _ (List.mem_append_right _ (List.mem_append_right _ (List.mem_append_left _ (List.mem_iff_getElem?.mpr ⟨9, rfl⟩)))))))))))))))))).1
    kp_BadDeed := (He.exc_ok (cd.facts (List.mem_append_right _ (List.mem_append_right _ (List.mem_append_right _ (List.mem_append_right _ (List.mem_append_right _ (List.mem_append_right _ (List.mem_append_right _ (List.mem_append_right _ (List.mem_append_right _ (List.mem_append_right _ (List.mem_append_right _ (List.mem_append_right _ (List.mem_append_right _ (List.mem_append_right _ (List.mem_append_left _ (List.mem_iff_getElem?.mpr ⟨9, rfl⟩)))))))))))))))))).2.1
    b_BadDeed := (He.exc_ok (cd.facts (List.mem_append_right _ (List.mem_append_right _ (List.mem_append_right _ (List.mem_append_right _ (List.mem_append_right _ (List.mem_append_right _ (List.mem_append_right _ (List.mem_append_right _ (List.mem_append_right _ (List.mem_append_right _ (List.mem_append_right _ (List.mem_append_right _ (List.mem_append_right _ (List.mem_append_right _ (List.mem_append_left _ (List.mem_iff_getElem?.mpr ⟨9, rfl⟩)))))))))))))))))).2.2.1
    t_BadDeed := (He.exc_ok (cd.facts (List.mem_append_right _ (List.mem_append_right _ (List.mem_append_right _ (List.mem_append_right _ (List.mem_append_right _ (List.mem_append_right _ (List.mem_append_right _ (List.mem_append_right _ (List.mem_append_right _ (List.mem_append_right _ (List.mem_append_right _ (List.mem_append_right _ (List.mem_append_right _ (List.mem_append_right _ (List.mem_append_left _ (List.mem_iff_getElem?.mpr ⟨9, rfl⟩)))))))))))))))))).2.2.2
    x_BadAppeal := (He.exc_ok (cd.facts (List.mem_append_right _ (List.mem_append_right _ (List.mem_append_right _ (List.mem_append_right _ (List.mem_append_right _ (List.mem_append_right _ (List.mem_append_right _ (List.mem_append_right _ (List.mem_append_right _ (List.mem_append_right _ (List.mem_append_right _ (List.mem_append_right _ (List.mem_append_right _ (List.mem_append_right _ (List.mem_append_right _ (List.mem_append_left _ (List.mem_iff_getElem?.mpr ⟨0, rfl⟩))))))))))))))))))).1
    kp_BadAppeal := (He.exc_ok (cd.facts (List.mem_append_right _ (List.mem_append_right _ (List.mem_append_right _ (List.mem_append_right _ (List.mem_append_right _ (List.mem_append_right _ (List.mem_append_right _ (List.mem_append_right _ (List.mem_append_right _ (List.mem_append_right _ (List.mem_append_right _ (List.mem_append_right _ (List.mem_append_right _ (List.mem_append_right _ (List.mem_append_right _ (List.mem_append_left _ (List.mem_iff_getElem?.mpr ⟨0, rfl⟩))))))))))))))))))).2.1
    b_BadAppeal := (He.exc_ok (cd.facts (List.mem_append_right _ (List.mem_append_right _ (List.mem_append_right _ (List.mem_append_right _ (List.mem_append_right _ (List.mem_append_right _ (List.mem_append_right _ (List.mem_append_right _ (List.mem_append_right _ (List.mem_append_right _ (List.mem_append_right _ (List.mem_append_right _ (List.mem_append_right _ (List.mem_append_right _ (List.mem_append_right _ (List.mem_append_left _ (List.mem_iff_getElem?.mpr ⟨0, rfl⟩))))))))))))))))))).2.2.1
    t_BadAppeal := (He.exc_ok (cd.facts (List.mem_append_right _ (List.mem_append_right _ (List.mem_append_right _ (List.mem_append_right _ (List.mem_append_right _ (List.mem_append_right _ (List.mem_append_right _ (List.mem_append_right _ (List.mem_append_right _ (List.mem_append_right _ (List.mem_append_right _ (List.mem_append_right _ (List.mem_append_right _ (List.mem_append_right _ (List.mem_append_right _ (List.mem_append_left _ (List.mem_iff_getElem?.mpr ⟨0, rfl⟩))))))))))))))))))).2.2.2
    m_BadAppeal := He.exm_ok (cd.facts (List.mem_append_right _ (List.mem_append_right _ (List.mem_append_right _ (List.mem_append_right _ (List.mem_append_right _ (List.mem_append_right _ (List.mem_append_right _ (List.mem_append_right _ (List.mem_append_right _ (List.mem_append_right _ (List.mem_append_right _ (List.mem_append_right _ (List.mem_append_right _ (List.mem_append_right _ (List.mem_append_right _ (List.mem_append_left _ (List.mem_iff_getElem?.mpr ⟨1, rfl⟩))))))))))))))))))
    m_BadDeed := He.exm_ok (cd.facts (List.mem_append_right _ (List.mem_append_right _ (List.mem_append_right _ (List.mem_append_right _ (List.mem_append_right _ (List.mem_append_right _ (List.mem_append_right _ (List.mem_append_right _ (List.mem_append_right _ (List.mem_append_right _ (List.mem_append_right _ (List.mem_append_right _ (List.mem_append_right _ (List.mem_append_right _ (List.mem_append_right _ (List.mem_append_left _ (List.mem_iff_getElem?.mpr ⟨2, rfl⟩))))))))))))))))))
    o_BadName := of_decide_eq_true (List.all_eq_true.mp hx _ (List.mem_append_left _ (List.mem_iff_getElem?.mpr ⟨3, rfl⟩)))
    o_BadSum := of_decide_eq_true (List.all_eq_true.mp hx _ (List.mem_append_left _ (List.mem_iff_getElem?.mpr ⟨4, rfl⟩)))
    o_BadWeights := of_decide_eq_true (List.all_eq_true.mp hx _ (List.mem_append_left _ (List.mem_iff_getElem?.mpr ⟨5, rfl⟩)))
    o_BadHalf := of_decide_eq_true (List.all_eq_true.mp hx _ (List.mem_append_left _ (List.mem_iff_getElem?.mpr ⟨6, rfl⟩)))
    o_BadDay := of_decide_eq_true (List.all_eq_true.mp hx _ (List.mem_append_left _ (List.mem_iff_getElem?.mpr ⟨7, rfl⟩)))
    o_BadCounty := of_decide_eq_true (List.all_eq_true.mp hx _ (List.mem_append_left _ (List.mem_iff_getElem?.mpr ⟨8, rfl⟩)))
    o_BadExcused := of_decide_eq_true (List.all_eq_true.mp hx _ (List.mem_append_left _ (List.mem_iff_getElem?.mpr ⟨9, rfl⟩)))
    o_BadAppeal := of_decide_eq_true (List.all_eq_true.mp hx _ (List.mem_append_right _ (List.mem_append_left _ (List.mem_iff_getElem?.mpr ⟨0, rfl⟩))))
    o_BadText := of_decide_eq_true (List.all_eq_true.mp hx _ (List.mem_append_right _ (List.mem_append_left _ (List.mem_iff_getElem?.mpr ⟨1, rfl⟩))))
    o_BadDeed := of_decide_eq_true (List.all_eq_true.mp hx _ (List.mem_append_right _ (List.mem_append_left _ (List.mem_iff_getElem?.mpr ⟨2, rfl⟩))))
    o_BadTerm := of_decide_eq_true (List.all_eq_true.mp hx _ (List.mem_append_right _ (List.mem_append_left _ (List.mem_iff_getElem?.mpr ⟨3, rfl⟩))))
    o_BadPaper := of_decide_eq_true (List.all_eq_true.mp hx _ (List.mem_append_right _ (List.mem_append_left _ (List.mem_iff_getElem?.mpr ⟨4, rfl⟩))))
    o_BadStory := of_decide_eq_true (List.all_eq_true.mp hx _ (List.mem_append_right _ (List.mem_append_left _ (List.mem_iff_getElem?.mpr ⟨5, rfl⟩))))
    o_ValueError := of_decide_eq_true (List.all_eq_true.mp hx _ (List.mem_append_right _ (List.mem_append_left _ (List.mem_iff_getElem?.mpr ⟨6, rfl⟩))))
    ec_BadDeed := ⟨He.eqO_ok (List.all_eq_true.mp hx _ (List.mem_append_right _ (List.mem_append_left _ (List.mem_iff_getElem?.mpr ⟨7, rfl⟩)))), He.eqO_ok (List.all_eq_true.mp hx _ (List.mem_append_right _ (List.mem_append_left _ (List.mem_iff_getElem?.mpr ⟨8, rfl⟩)))), of_decide_eq_true (List.all_eq_true.mp hx _ (List.mem_append_right _ (List.mem_append_left _ (List.mem_iff_getElem?.mpr ⟨9, rfl⟩)))), (List.all_eq_true.mp hx _ (List.mem_append_right _ (List.mem_append_right _ (List.mem_iff_getElem?.mpr ⟨0, rfl⟩)))), He.eqO_ok (List.all_eq_true.mp hx _ (List.mem_append_right _ (List.mem_append_right _ (List.mem_iff_getElem?.mpr ⟨1, rfl⟩)))), He.eqO_ok (List.all_eq_true.mp hx _ (List.mem_append_right _ (List.mem_append_right _ (List.mem_iff_getElem?.mpr ⟨2, rfl⟩)))), of_decide_eq_true (List.all_eq_true.mp hx _ (List.mem_append_right _ (List.mem_append_right _ (List.mem_iff_getElem?.mpr ⟨3, rfl⟩)))), of_decide_eq_true (List.all_eq_true.mp hx _ (List.mem_append_right _ (List.mem_append_right _ (List.mem_iff_getElem?.mpr ⟨4, rfl⟩))))⟩
    cl_Term := He.cls_ok (cd.facts (List.mem_append_right _ (List.mem_append_right _ (List.mem_append_right _ (List.mem_append_right _ (List.mem_append_right _ (List.mem_append_right _ (List.mem_append_left _ (List.mem_iff_getElem?.mpr ⟨8, rfl⟩)))))))))
    cl_Books := He.cls_ok (cd.facts (List.mem_append_right _ (List.mem_append_right _ (List.mem_append_right _ (List.mem_append_right _ (List.mem_append_right _ (List.mem_append_right _ (List.mem_append_right _ (List.mem_append_left _ (List.mem_iff_getElem?.mpr ⟨0, rfl⟩))))))))))
    cl_Ledger := He.cls_ok (cd.facts (List.mem_append_right _ (List.mem_append_right _ (List.mem_append_right _ (List.mem_append_right _ (List.mem_append_right _ (List.mem_append_right _ (List.mem_append_right _ (List.mem_append_left _ (List.mem_iff_getElem?.mpr ⟨2, rfl⟩))))))))))
    n_Term_collector := He.noat_ok (cd.facts (List.mem_append_right _ (List.mem_append_right _ (List.mem_append_right _ (List.mem_append_right _ (List.mem_append_right _ (List.mem_append_right _ (List.mem_append_right _ (List.mem_append_right _ (List.mem_append_right _ (List.mem_append_right _ (List.mem_append_right _ (List.mem_append_right _ (List.mem_append_right _ (List.mem_append_right _ (List.mem_append_right _ (List.mem_append_left _ (List.mem_iff_getElem?.mpr ⟨3, rfl⟩))))))))))))))))))
    n_Term_told := He.noat_ok (cd.facts (List.mem_append_right _ (List.mem_append_right _ (List.mem_append_right _ (List.mem_append_right _ (List.mem_append_right _ (List.mem_append_right _ (List.mem_append_right _ (List.mem_append_right _ (List.mem_append_right _ (List.mem_append_right _ (List.mem_append_right _ (List.mem_append_right _ (List.mem_append_right _ (List.mem_append_right _ (List.mem_append_right _ (List.mem_append_left _ (List.mem_iff_getElem?.mpr ⟨4, rfl⟩))))))))))))))))))
    n_Term_came := He.noat_ok (cd.facts (List.mem_append_right _ (List.mem_append_right _ (List.mem_append_right _ (List.mem_append_right _ (List.mem_append_right _ (List.mem_append_right _ (List.mem_append_right _ (List.mem_append_right _ (List.mem_append_right _ (List.mem_append_right _ (List.mem_append_right _ (List.mem_append_right _ (List.mem_append_right _ (List.mem_append_right _ (List.mem_append_right _ (List.mem_append_left _ (List.mem_iff_getElem?.mpr ⟨5, rfl⟩))))))))))))))))))
    n_Term_went := He.noat_ok (cd.facts (List.mem_append_right _ (List.mem_append_right _ (List.mem_append_right _ (List.mem_append_right _ (List.mem_append_right _ (List.mem_append_right _ (List.mem_append_right _ (List.mem_append_right _ (List.mem_append_right _ (List.mem_append_right _ (List.mem_append_right _ (List.mem_append_right _ (List.mem_append_right _ (List.mem_append_right _ (List.mem_append_right _ (List.mem_append_left _ (List.mem_iff_getElem?.mpr ⟨6, rfl⟩))))))))))))))))))
    n_Books_on_year := He.noat_ok (cd.facts (List.mem_append_right _ (List.mem_append_right _ (List.mem_append_right _ (List.mem_append_right _ (List.mem_append_right _ (List.mem_append_right _ (List.mem_append_right _ (List.mem_append_right _ (List.mem_append_right _ (List.mem_append_right _ (List.mem_append_right _ (List.mem_append_right _ (List.mem_append_right _ (List.mem_append_right _ (List.mem_append_right _ (List.mem_append_left _ (List.mem_iff_getElem?.mpr ⟨7, rfl⟩))))))))))))))))))
    n_Books_on_day := He.noat_ok (cd.facts (List.mem_append_right _ (List.mem_append_right _ (List.mem_append_right _ (List.mem_append_right _ (List.mem_append_right _ (List.mem_append_right _ (List.mem_append_right _ (List.mem_append_right _ (List.mem_append_right _ (List.mem_append_right _ (List.mem_append_right _ (List.mem_append_right _ (List.mem_append_right _ (List.mem_append_right _ (List.mem_append_right _ (List.mem_append_left _ (List.mem_iff_getElem?.mpr ⟨8, rfl⟩))))))))))))))))))
    n_Books_of_county := He.noat_ok (cd.facts (List.mem_append_right _ (List.mem_append_right _ (List.mem_append_right _ (List.mem_append_right _ (List.mem_append_right _ (List.mem_append_right _ (List.mem_append_right _ (List.mem_append_right _ (List.mem_append_right _ (List.mem_append_right _ (List.mem_append_right _ (List.mem_append_right _ (List.mem_append_right _ (List.mem_append_right _ (List.mem_append_right _ (List.mem_append_left _ (List.mem_iff_getElem?.mpr ⟨9, rfl⟩))))))))))))))))))
    n_Books_of_total := He.noat_ok (cd.facts (List.mem_append_right _ (List.mem_append_right _ (List.mem_append_right _ (List.mem_append_right _ (List.mem_append_right _ (List.mem_append_right _ (List.mem_append_right _ (List.mem_append_right _ (List.mem_append_right _ (List.mem_append_right _ (List.mem_append_right _ (List.mem_append_right _ (List.mem_append_right _ (List.mem_append_right _ (List.mem_append_right _ (List.mem_append_right _ (List.mem_iff_getElem?.mpr ⟨0, rfl⟩))))))))))))))))))
    n_Books_of_excused := He.noat_ok (cd.facts (List.mem_append_right _ (List.mem_append_right _ (List.mem_append_right _ (List.mem_append_right _ (List.mem_append_right _ (List.mem_append_right _ (List.mem_append_right _ (List.mem_append_right _ (List.mem_append_right _ (List.mem_append_right _ (List.mem_append_right _ (List.mem_append_right _ (List.mem_append_right _ (List.mem_append_right _ (List.mem_append_right _ (List.mem_append_right _ (List.mem_iff_getElem?.mpr ⟨1, rfl⟩))))))))))))))))))
    n_Books_halves := He.noat_ok (cd.facts (List.mem_append_right _ (List.mem_append_right _ (List.mem_append_right _ (List.mem_append_right _ (List.mem_append_right _ (List.mem_append_right _ (List.mem_append_right _ (List.mem_append_right _ (List.mem_append_right _ (List.mem_append_right _ (List.mem_append_right _ (List.mem_append_right _ (List.mem_append_right _ (List.mem_append_right _ (List.mem_append_right _ (List.mem_append_right _ (List.mem_iff_getElem?.mpr ⟨2, rfl⟩))))))))))))))))))
    n_Books_shut := He.noat_ok (cd.facts (List.mem_append_right _ (List.mem_append_right _ (List.mem_append_right _ (List.mem_append_right _ (List.mem_append_right _ (List.mem_append_right _ (List.mem_append_right _ (List.mem_append_right _ (List.mem_append_right _ (List.mem_append_right _ (List.mem_append_right _ (List.mem_append_right _ (List.mem_append_right _ (List.mem_append_right _ (List.mem_append_right _ (List.mem_append_right _ (List.mem_iff_getElem?.mpr ⟨3, rfl⟩))))))))))))))))))
    n_Books_by_parish := He.noat_ok (cd.facts (List.mem_append_right _ (List.mem_append_right _ (List.mem_append_right _ (List.mem_append_right _ (List.mem_append_right _ (List.mem_append_right _ (List.mem_append_right _ (List.mem_append_right _ (List.mem_append_right _ (List.mem_append_right _ (List.mem_append_right _ (List.mem_append_right _ (List.mem_append_right _ (List.mem_append_right _ (List.mem_append_right _ (List.mem_append_right _ (List.mem_iff_getElem?.mpr ⟨4, rfl⟩))))))))))))))))))
    n_Books_coming := He.noat_ok (cd.facts (List.mem_append_right _ (List.mem_append_right _ (List.mem_append_right _ (List.mem_append_right _ (List.mem_append_right _ (List.mem_append_right _ (List.mem_append_right _ (List.mem_append_right _ (List.mem_append_right _ (List.mem_append_right _ (List.mem_append_right _ (List.mem_append_right _ (List.mem_append_right _ (List.mem_append_right _ (List.mem_append_right _ (List.mem_append_right _ (List.mem_iff_getElem?.mpr ⟨5, rfl⟩))))))))))))))))))
    n_Books_to_county := He.noat_ok (cd.facts (List.mem_append_right _ (List.mem_append_right _ (List.mem_append_right _ (List.mem_append_right _ (List.mem_append_right _ (List.mem_append_right _ (List.mem_append_right _ (List.mem_append_right _ (List.mem_append_right _ (List.mem_append_right _ (List.mem_append_right _ (List.mem_append_right _ (List.mem_append_right _ (List.mem_append_right _ (List.mem_append_right _ (List.mem_append_right _ (List.mem_iff_getElem?.mpr ⟨6, rfl⟩))))))))))))))))))
    n_Ledger_books := He.noat_ok (cd.facts (List.mem_append_right _ (List.mem_append_right _ (List.mem_append_right _ (List.mem_append_right _ (List.mem_append_right _ (List.mem_append_right _ (List.mem_append_right _ (List.mem_append_right _ (List.mem_append_right _ (List.mem_append_right _ (List.mem_append_right _ (List.mem_append_right _ (List.mem_append_right _ (List.mem_append_right _ (List.mem_append_right _ (List.mem_append_right _ (List.mem_iff_getElem?.mpr ⟨7, rfl⟩))))))))))))))))))
    n_Ledger_behind := He.noat_ok (cd.facts (List.mem_append_right _ (List.mem_append_right _ (List.mem_append_right _ (List.mem_append_right _ (List.mem_append_right _ (List.mem_append_right _ (List.mem_append_right _ (List.mem_append_right _ (List.mem_append_right _ (List.mem_append_right _ (List.mem_append_right _ (List.mem_append_right _ (List.mem_append_right _ (List.mem_append_right _ (List.mem_append_right _ (List.mem_append_right _ (List.mem_iff_getElem?.mpr ⟨8, rfl⟩))))))))))))))))))
    n_Ledger_ahead := He.noat_ok (cd.facts (List.mem_append_right _ (List.mem_append_right _ (List.mem_append_right _ (List.mem_append_right _ (List.mem_append_right _ (List.mem_append_right _ (List.mem_append_right _ (List.mem_append_right _ (List.mem_append_right _ (List.mem_append_right _ (List.mem_append_right _ (List.mem_append_right _ (List.mem_append_right _ (List.mem_append_right _ (List.mem_append_right _ (List.mem_append_right _ (List.mem_iff_getElem?.mpr ⟨9, rfl⟩))))))))))))))))))
  }⟩
end
theorem walk_H : PySem.W.WalkO qv names (PySem.W.XL qv []) hkH.says (PySem.W.OpenLaw.row PySem.Challenge.rw_pennyroll_k52_whole_to_the_penny).toRowW (HandSHeadRun.topDef RR.prog 111) [] (fun f vs => PySem.call f vs) := by
  refine Att.attach_callB (l := PySem.Challenge.rw_pennyroll_k52_whole_to_the_penny) (n := 63) rfl (by kernel_rfl) fun w s₀ s₁ mg mb fad o pm cd doc a vs ns G Y ho hd hcd hmg0 hobj hints hlen hbits hg => ?_
  obtain ⟨K, KX, c⟩ := Y
  have hmg : mg ("law" : Str) = some (.ref fad) := by
    have e : (HandSHeadRun.topDef RR.prog 111).name = ("law" : Str) := by kernel_rfl
    rw [← e]
    exact hmg0
  obtain ⟨T⟩ := txt_of KX G.T.g c
  have hdC := defAtC_of c.t.d KX G.T.g (x := "_law_going_right") (st := top 109) (List.mem_append_right _ (List.mem_append_right _ (List.mem_append_right _ (List.mem_append_right _ (List.mem_append_right _ (List.mem_append_right _ (List.mem_append_right _ (List.mem_append_right _ (List.mem_append_left _ (List.mem_iff_getElem?.mpr ⟨9, rfl⟩)))))))))) (List.mem_append_right _ (List.mem_append_right _ (List.mem_append_right _ (List.mem_append_right _ (List.mem_append_right _ (List.mem_append_right _ (List.mem_append_left _ (List.mem_iff_getElem?.mpr ⟨4, rfl⟩))))))))
  have hin : (("_law_going_right", none) : He.Defn) ∈ tfH := List.mem_singleton.mpr rfl
  exact call_G (k := 16) (x := "law") (CX := CX0) KX G.T.g G.T.b G.T.builtins G.T.nolimit hg (c.empty _ hin) (c.out _ hin) (PySem.W.codeHd_of_K KX (c.hd _ hin)) G.T.bmain hobj hints (Nat.le_trans hlen (by decide)) ⟨rfl, by decide, by decide⟩
    (fun base hb hn tb => c_law (cA := 0) T (c__law_going_right T hdC tb)) hmg
    (fun H hT hS => ⟨a, ns, rfl, hS, hlen, fun p hp => by rw [List.mem_singleton.mp hp]; exact TabS.nil hT, fun _ => rfl⟩) (fun H e s' z => z)
end K5
open PySem PySem.W PySem.Calls PyProof.Rows
theorem PySem.Challenge.cw_pennyroll_k52_whole_to_the_penny_holds : PySem.Challenge.rw_pennyroll_k52_whole_to_the_penny.Holds := by
  w_on; o_law
  refine HandSHeadRun.head_any (r := OpenLaw.row PySem.Challenge.rw_pennyroll_k52_whole_to_the_penny) (q := K5.qv) (H := K5.hkH) (ob := K5.obH) (M := 20000) (loose := K5.names) (d := HandSHeadRun.topDef (OpenLaw.row PySem.Challenge.rw_pennyroll_k52_whole_to_the_penny).prog 111) (kwd := []) K5.obH_eq
    (by kernel_rfl) (fun s => by kernel_rfl) K5.runH (by kernel_rfl) (by kernel_rfl) (by kernel_rfl) (by rfl) (by first | assumption | decide +kernel) (by decide +kernel) ⟨rfl, rfl, rfl, rfl, rfl, by decide +kernel⟩ ?hw ?hc
  case hw => w_witness2
  case hc => exact K5.walk_H
