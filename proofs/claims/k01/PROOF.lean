import PyProof.Rows.All
import Wide.All
import OpenK.AllK
import Wide.FinOn
import HandS.ForMost
import HandS.IsInst
import HandS.AnyAll
import HandS.CallRecv
import HandS.Codes
import KE.KRevSl
import PySem.Challenge.RW_conceptscript_k01_other_texts_of_a_formu
set_option Elab.async false
set_option linter.all false
set_option maxRecDepth 100000
set_option maxHeartbeats 2000000
namespace Cs
open PySem L2

/-! ### heaps that grow: all stays but the addresses of S; tuples, known things and code tables stay in any case -/
structure Gx (S : List Addr) (H H' : Hp) : Prop where
  keep : ∀ a u, a ∉ S → H a = some u → (∀ ps, u ≠ .tbl ps) → H' a = some u
  tup : ∀ a xs, H a = some (.tup xs) → H' a = some (.tup xs)
  frz : ∀ a o u, H a = some (.frz o u) → H' a = some (.frz o u)
  tab : ∀ a, GxR.TabG H a → GxR.TabG H' a
  dom : ∀ a, H' a = none → H a = none
abbrev Gr : Hp → Hp → Prop := Gx []
section
variable {S S' : List Addr} {H H1 H2 H' : Hp} {a p : Addr} {o u : HO} {K : PySem.W.Frag} {xs : List V}
theorem Gx.refl : Gx S H H := ⟨fun _ _ _ h _ => h, fun _ _ h => h, fun _ _ _ h => h, fun _ h => h, fun _ h => h⟩
theorem Gx.trans (x : Gx S H H1) (y : Gx S H1 H2) : Gx S H H2 :=
  ⟨fun a u n h z => y.keep a u n (x.keep a u n h z) z, fun a xs h => y.tup a xs (x.tup a xs h), fun a o u h => y.frz a o u (x.frz a o u h), fun a h => y.tab a (x.tab a h), fun a h => x.dom a (y.dom a h)⟩
theorem Gx.mono (x : Gx S H H1) (h : ∀ a ∈ S, a ∈ S') : Gx S' H H1 := ⟨fun a u n q z => x.keep a u (fun m => n (h a m)) q z, x.tup, x.frz, x.tab, x.dom⟩
theorem Gx.wk (x : Gr H H1) : Gx S H H1 := x.mono fun a h => nomatch h
theorem Gx.new (h : H p = none) : Gx S H (upd H p o) where
  keep := fun a u _ q _ => by rw [upd_ne (ne_of_none q h)]; exact q
  tup := fun a xs q => by rw [upd_ne (ne_of_none q h)]; exact q
  frz := fun a o u q => by rw [upd_ne (ne_of_none q h)]; exact q
  tab := fun a ⟨ps, q, t⟩ => ⟨ps, by rw [upd_ne (ne_of_none q h)]; exact q, t⟩
  dom := fun a q => by
    by_cases e : a = p
    · rw [e]; exact h
    · rw [upd_ne e] at q; exact q
/-- what may be changed at its place -/
def Mt : HO → Bool
  | .tup _ => false | .frz _ _ => false | .tbl _ => false | _ => true
theorem Gx.set (h : H p = some u) (m : Mt u = true) : Gx [p] H (upd H p o) where
  keep := fun a u n q _ => by rw [upd_ne (fun e => n (by rw [e]; exact List.mem_singleton_self _))]; exact q
  tup := fun a xs q => by rw [upd_ne (fun e => by rw [e, h] at q; cases q; cases m)]; exact q
  frz := fun a o u q => by rw [upd_ne (fun e => by rw [e, h] at q; cases q; cases m)]; exact q
  tab := fun a ⟨ps, q, t⟩ => ⟨ps, by rw [upd_ne (fun e => by rw [e, h] at q; cases q; cases m)]; exact q, t⟩
  dom := fun a q => by
    by_cases e : a = p
    · rw [e, upd_same] at q; cases q
    · rw [upd_ne e] at q; exact q
/-- an object that H did not know may change afterwards -/
theorem Gx.drop (x : Gx S H H1) (y : Gx S' H1 H2) (h : ∀ a ∈ S', a ∈ S ∨ H a = none) : Gx S H H2 :=
  ⟨fun a u n q z => y.keep a u (fun m => by
      rcases h a m with k | k
      · exact n k
      · rw [k] at q; cases q) (x.keep a u n q z) z, fun a xs h => y.tup a xs (x.tup a xs h), fun a o u h => y.frz a o u (x.frz a o u h), fun a h => y.tab a (x.tab a h), fun a h => x.dom a (y.dom a h)⟩
theorem Gx.sqT (x : Gx S H H') (h : SqT K H a xs) : SqT K H' a xs := by
  rcases h with (h | ⟨o, h⟩) | h
  · exact .inl (.inl (x.tup _ _ h))
  · exact .inl (.inr ⟨o, x.frz _ _ _ h⟩)
  · exact .inr h
theorem Gx.sqL (x : Gx S H H') (n : a ∉ S) (h : SqL K H a xs) : SqL K H' a xs := by
  rcases h with (h | ⟨o, h⟩) | h
  · exact .inl (.inl (x.keep _ _ n h fun ps e => nomatch e))
  · exact .inl (.inr ⟨o, x.frz _ _ _ h⟩)
  · exact .inr h
theorem Gx.lst (x : Gx S H H') (h : H a = some (.lst xs)) (n : a ∉ S) : H' a = some (.lst xs) := x.keep _ _ n h fun ps e => nomatch e
theorem Gx.sqG (x : Gr H H') (h : SqL K H a xs) : SqL K H' a xs := x.sqL (fun n => nomatch n) h
theorem Gx.ne (x : Gx S H H') (h : H a = some u) (h' : H' p = none) : a ≠ p := fun e => by
  have q := x.dom p h'
  rw [e, q] at h; cases h
end
theorem gr_some {H H' : Hp} (x : Gr H H') {a : Addr} {u : HO} (h : H a = some u) (n : ∀ ps, u ≠ .tbl ps) : H' a = some u := x.keep a u (fun m => nomatch m) h n

/-! ### data of tuples -/
mutual
inductive Dt (K : PySem.W.Frag) (H : Hp) : V → PyData → Prop
  | non : Dt K H .non .none
  | bl (b : Bool) : Dt K H (.bl b) (.bool b)
  | int (i : Int) : Dt K H (.int i) (.int i)
  | str (x : Str) : Dt K H (.str x) (.str x)
  | tup {a : Addr} {xs : List V} {ds : List PyData} : SqT K H a xs → DtAll K H xs ds → Dt K H (.ref a) (.tuple ds)
inductive DtAll (K : PySem.W.Frag) (H : Hp) : List V → List PyData → Prop
  | nil : DtAll K H [] []
  | cons {v : V} {vs : List V} {d : PyData} {ds : List PyData} : Dt K H v d → DtAll K H vs ds → DtAll K H (v :: vs) (d :: ds)
end
section
variable {S : List Addr} {H H' : Hp} {K : PySem.W.Frag}
mutual
theorem Dt.mono (x : Gx S H H') : ∀ (d : PyData) (v : V), Dt K H v d → Dt K H' v d
  | .none, _, h => by cases h; exact .non
  | .bool b, _, h => by cases h; exact .bl b
  | .int i, _, h => by cases h; exact .int i
  | .str s, _, h => by cases h; exact .str s
  | .tuple ds, _, h => by
    cases h with
    | tup q r => exact .tup (x.sqT q) (DtAll.mono x ds _ r)
  | .list _, _, h => by cases h
  | .dict _, _, h => by cases h
theorem DtAll.mono (x : Gx S H H') : ∀ (ds : List PyData) (vs : List V), DtAll K H vs ds → DtAll K H' vs ds
  | [], _, h => by cases h; exact .nil
  | d :: ds, _, h => by
    cases h with
    | cons q r => exact .cons (Dt.mono x d _ q) (DtAll.mono x ds _ r)
end
theorem Gx.dt (x : Gx S H H') {d : PyData} {v : V} (h : Dt K H v d) : Dt K H' v d := Dt.mono x d v h
theorem Gx.dts (x : Gx S H H') {ds : List PyData} {vs : List V} (h : DtAll K H vs ds) : DtAll K H' vs ds := DtAll.mono x ds vs h
mutual
theorem Dt.dp : ∀ (d : PyData) (v : V), Dt K H v d → Dp K H v d
  | .none, _, h => by cases h; exact .non
  | .bool b, _, h => by cases h; exact .bl b
  | .int i, _, h => by cases h; exact .int i
  | .str s, _, h => by cases h; exact .str s
  | .tuple ds, _, h => by
    cases h with
    | tup q r => exact .tup q (DtAll.dp ds _ r)
  | .list _, _, h => by cases h
  | .dict _, _, h => by cases h
theorem DtAll.dp : ∀ (ds : List PyData) (vs : List V), DtAll K H vs ds → DpAll K H vs ds
  | [], _, h => by cases h; exact .nil
  | d :: ds, _, h => by
    cases h with
    | cons q r => exact .cons (Dt.dp d _ q) (DtAll.dp ds _ r)
end
theorem DtAll.len {vs : List V} {ds : List PyData} (h : DtAll K H vs ds) : vs.length = ds.length := by
  induction ds generalizing vs with
  | nil => cases h; rfl
  | cons d ds ih =>
    cases h with
    | cons q r => rw [List.length_cons, List.length_cons, ih r]
theorem DtAll.get : ∀ {ds : List PyData} {vs : List V} {i : Nat} {d : PyData}, DtAll K H vs ds → ds[i]? = some d → ∃ v, vs[i]? = some v ∧ Dt K H v d
  | [], _, i, d, _, h => by simp at h
  | d :: ds, _, 0, e, .cons q r, h => by
    simp at h; subst h
    exact ⟨_, rfl, q⟩
  | d :: ds, _, i + 1, e, .cons q r, h => by
    obtain ⟨v, h1, h2⟩ := DtAll.get (i := i) r (by simpa using h)
    exact ⟨v, by simpa using h1, h2⟩
theorem Dt.tupI {v : V} {ds : List PyData} (h : Dt K H v (.tuple ds)) : ∃ a xs, v = .ref a ∧ SqT K H a xs ∧ DtAll K H xs ds := by
  cases h with
  | tup q r => exact ⟨_, _, rfl, q, r⟩
theorem DtAll.app : ∀ {ds es : List PyData} {vs ws : List V}, DtAll K H vs ds → DtAll K H ws es → DtAll K H (vs ++ ws) (ds ++ es)
  | [], _, _, _, .nil, s => s
  | _ :: _, _, _, _, .cons q r, s => .cons q (DtAll.app r s)
end

/-! ### equality of data -/
mutual
def hasDict : PyData → Bool
  | .dict _ => true
  | .list xs => hasDicts xs
  | .tuple xs => hasDicts xs
  | _ => false
def hasDicts : List PyData → Bool
  | [] => false
  | x :: xs => hasDict x || hasDicts xs
end

/-! ### formulas -/
inductive Fm where
  | lt (n : Str)
  | ng (p : Fm)
  | im (p q : Fm)
  deriving DecidableEq
namespace Fm
def size : Fm → Nat
  | .lt _ => 1
  | .ng p => 1 + p.size
  | .im p q => 1 + (p.size + q.size)
def depth : Fm → Nat
  | .lt _ => 1
  | .ng p => p.depth + 1
  | .im p q => max p.depth q.depth + 1
/-- all letters, as they stand -/
def lets : Fm → List Str
  | .lt n => [n]
  | .ng p => p.lets
  | .im p q => p.lets ++ q.lets
def d : Fm → PyData
  | .lt n => .tuple [.str "letter", .str n]
  | .ng p => .tuple [.str "not", p.d]
  | .im p q => .tuple [.str "if", p.d, q.d]
theorem size_pos : ∀ f : Fm, 1 ≤ f.size
  | .lt _ => Nat.le_refl _
  | .ng _ => Nat.le_add_right _ _
  | .im _ _ => Nat.le_add_right _ _
theorem depth_le : ∀ f : Fm, f.depth ≤ f.size
  | .lt _ => Nat.le_refl _
  | .ng p => by have := depth_le p; simp only [size, depth]; omega
  | .im p q => by have := depth_le p; have := depth_le q; simp only [size, depth]; omega
end Fm
abbrev FmV (K : PySem.W.Frag) (H : Hp) (v : V) (f : Fm) : Prop := Dt K H v f.d
section
variable {S : List Addr} {H H' : Hp} {K : PySem.W.Frag} {v : V} {n : Str} {p q : Fm}
theorem fm_lt (h : FmV K H v (.lt n)) : ∃ a, v = .ref a ∧ SqT K H a [.str "letter", .str n] := by
  obtain ⟨a, xs, rfl, h1, h2⟩ := Dt.tupI h
  cases h2 with
  | cons q1 r1 =>
    cases r1 with
    | cons q2 r2 =>
      cases r2; cases q1; cases q2
      exact ⟨a, rfl, h1⟩
theorem fm_ng (h : FmV K H v (.ng p)) : ∃ a x, v = .ref a ∧ SqT K H a [.str "not", x] ∧ FmV K H x p := by
  obtain ⟨a, xs, rfl, h1, h2⟩ := Dt.tupI h
  cases h2 with
  | cons q1 r1 =>
    cases r1 with
    | cons q2 r2 =>
      cases r2; cases q1
      exact ⟨a, _, rfl, h1, q2⟩
theorem fm_im (h : FmV K H v (.im p q)) : ∃ a x y, v = .ref a ∧ SqT K H a [.str "if", x, y] ∧ FmV K H x p ∧ FmV K H y q := by
  obtain ⟨a, xs, rfl, h1, h2⟩ := Dt.tupI h
  cases h2 with
  | cons q1 r1 =>
    cases r1 with
    | cons q2 r2 =>
      cases r2 with
      | cons q3 r3 =>
        cases r3; cases q1
        exact ⟨a, _, _, rfl, h1, q2, q3⟩
theorem mk_lt {a : Addr} (h : SqT K H a [.str "letter", .str n]) : FmV K H (.ref a) (.lt n) := .tup h (.cons (.str _) (.cons (.str _) .nil))
theorem mk_ng {a : Addr} {x : V} (h : SqT K H a [.str "not", x]) (h1 : FmV K H x p) : FmV K H (.ref a) (.ng p) := .tup h (.cons (.str _) (.cons h1 .nil))
theorem mk_im {a : Addr} {x y : V} (h : SqT K H a [.str "if", x, y]) (h1 : FmV K H x p) (h2 : FmV K H y q) : FmV K H (.ref a) (.im p q) := .tup h (.cons (.str _) (.cons h1 (.cons h2 .nil)))
end
/-- every formula's value: its kind and its parts -/
inductive FmC (K : PySem.W.Frag) (H : Hp) : V → Fm → Prop
  | lt {a : Addr} {n : Str} : SqT K H a [.str "letter", .str n] → FmC K H (.ref a) (.lt n)
  | ng {a : Addr} {x : V} {p : Fm} : SqT K H a [.str "not", x] → FmV K H x p → FmC K H (.ref a) (.ng p)
  | im {a : Addr} {x y : V} {p q : Fm} : SqT K H a [.str "if", x, y] → FmV K H x p → FmV K H y q → FmC K H (.ref a) (.im p q)
theorem FmV.c {K : PySem.W.Frag} {H : Hp} {v : V} : ∀ {f : Fm}, FmV K H v f → FmC K H v f
  | .lt n, h => by obtain ⟨a, rfl, h1⟩ := fm_lt h; exact .lt h1
  | .ng p, h => by obtain ⟨a, x, rfl, h1, h2⟩ := fm_ng h; exact .ng h1 h2
  | .im p q, h => by obtain ⟨a, x, y, rfl, h1, h2, h3⟩ := fm_im h; exact .im h1 h2 h3
end Cs

namespace Cs
open PySem PySem.Spec PyProof.Rows L2

/-- a def of the module, as the top has left it -/
structure Df (K : PySem.W.Frag) (mg : Str → Option Value) (x : Str) (st : Stmt) (ps : List Str) : Prop where
  ex : ∃ f fd, Fun K x x st f fd ∧ mg x = some (.ref f) ∧ Binds K fd ps []
/-- a def that keeps a promise -/
structure Cl (CX : CXT) (P : Program) (w : World) (K : PySem.W.Frag) (mg : Str → Option Value) (base : Heap) (k : Nat) (x : Str) (sp : Sp) : Prop where
  ex : ∃ f fd ps, FnOk P w K mg base CX k f fd ps sp ∧ mg x = some (.ref f) ∧ PySem.W.keepIn K (.ref f) = true ∧ Binds K fd ps []
section
variable {CX : CXT} {P : Program} {w : World} {K : PySem.W.Frag} {mg : Str → Option Value} {base : Heap} {k j : Nat} {x : Str} {sp sp' : Sp}
theorem FnOk.lift {f : Addr} {fd : FuncData} {ps : List Str} (F : FnOk P w K mg base CX0 k f fd ps sp) : FnOk P w K mg base CX k f fd ps sp :=
  ⟨F.len, fun A outer s H args us vs Q E hr he hb hv hs => codeAny_mono (F.run A outer s H args us vs Q E hr he hb hv hs) fun r s' h => by
    cases r with
    | error e => exact False.elim h
    | ok fl => cases fl <;> exact h⟩
theorem Cl.lift (c : Cl CX0 P w K mg base k x sp) : Cl CX P w K mg base k x sp := by
  obtain ⟨f, fd, ps, F, r⟩ := c.ex
  exact ⟨f, fd, ps, FnOk.lift F, r⟩
theorem Cl.up (c : Cl CX P w K mg base k x sp) (h : k ≤ j) : Cl CX P w K mg base j x sp := by
  obtain ⟨f, fd, ps, F, r⟩ := c.ex
  exact ⟨f, fd, ps, F.mono h, r⟩
theorem Cl.imp (c : Cl CX P w K mg base k x sp) (h : ∀ vs H Q E, sp' vs H Q E → sp vs H Q E) : Cl CX P w K mg base k x sp' := by
  obtain ⟨f, fd, ps, F, r⟩ := c.ex
  exact ⟨f, fd, ps, FnOk.imp F h, r⟩
/-- THE RULE for a def from which no exception leaves -/
theorem Df.ok {st : Stmt} {N ps : List Str} (D : Df K mg x st ps) (S : FnScope N ps (defScope st)) (len : ∀ vs H Q E, sp vs H Q E → vs.length = ps.length)
    (hbody : ∀ (f : Addr) (cdv : Value) (A : Around) (outer : List Env) (s : Shared) (H : Hp) (vs : List V) (Q : VK) (E : XK), Room k (A.deeper (envOfC x (defScope st) s.heap.objs.size f cdv)) → sp vs H Q E →
      ∃ t, PSs (cxOf CX0 P w K mg base N x (defScope st) f cdv A outer s H E).nox (defBody st) t ∧ t { nx := fun _ H' => Q .non H', rt := Q } (start N vs) H) : Cl CX0 P w K mg base (k + 1) x sp := by
  obtain ⟨f, fd, F, hm, hb⟩ := D.ex
  exact ⟨f, fd, ps, F.ok S len (hbody f), hm, F.kp, hb⟩
/-- nothing is asked of it -/
theorem Df.none {st : Stmt} {ps : List Str} (D : Df K mg x st ps) (no : ∀ vs H Q E, ¬ sp vs H Q E) : Cl CX P w K mg base k x sp := by
  obtain ⟨f, fd, F, hm, hb⟩ := D.ex
  exact ⟨f, fd, ps, ⟨fun vs H Q E h => absurd h (no vs H Q E), fun A outer s H args us vs Q E _ _ _ _ h => absurd h (no vs H Q E)⟩, hm, F.kp, hb⟩
theorem df_mk {st : Stmt} {f : Addr} {h : Heap} {oc : Value} {od an : Option Addr} {osl : Array (Option Value)} {kV doc pm cdv ct : Value} {ps : List Str} (X : K.In h) (G : h.Ns mainGlobals mg)
    (hb : ∀ (kV doc pm : Value) (an : Option Addr) (cdv ct : Value) (us : List Value), us.length = ps.length → bindArgs (PySem.W.fnOf x x (defArgs st) (defBody st) (defScope st) .none kV doc pm an cdv ct) ⟨us, []⟩ = pure (ps.zip us))
    (a : PySem.W.nsIn K mainGlobals x = some (some (.ref f))) (l : K.lookup f = some ⟨oc, od, .func (PySem.W.fnOf x x (defArgs st) (defBody st) (defScope st) .none kV doc pm an cdv ct), osl⟩)
    (c : PySem.W.codeIn K cdv x = true) (k : PySem.W.keepIn K (.ref f) = true) : Df K mg x st ps :=
  ⟨f, _, fun_mk l c k, PySem.W.mg_of X G a, Fun.binds (fun_mk l c k) hb⟩
end
section
variable {X : Cx} {CX : CXT} {k j : Nat} {E : XK} {x : Str} {sp : Sp} {p pos : Pos} {e : Expr} {es : List Expr} {t : TA}
theorem pc (c : Cl CX X.prog X.w X.K X.mg X.base k x sp) (hr : Room j X.A) (hk : k ≤ j) (hg : Gl X x) (hx : Passes CX X E) (ha : PA X (e :: es) t)
    (hdb : (x == ("__debug__" : Str)) = false := by decide) (he : starEach (e :: es) X.env = (false, eval e X.env) :: starEach es X.env := by rfl) (hpl : (backTo pos (starEach es X.env)).any (·.1) = false := by rfl) :
    PE X (.Call (.Name x p) (e :: es) [] pos) (tCall sp [] E t) := by
  obtain ⟨f, fd, ps, F, hm, hkp, hb⟩ := c.ex
  exact pe_call F (hr.mono hk) hg hm hkp hb .nil hx ha hdb he hpl
theorem pc0 (c : Cl CX X.prog X.w X.K X.mg X.base k x sp) (hr : Room j X.A) (hk : k ≤ j) (hg : Gl X x) (hx : Passes CX X E) (hdb : (x == ("__debug__" : Str)) = false := by decide) :
    PE X (.Call (.Name x p) [] [] pos) (tCall sp [] E tNil) := by
  obtain ⟨f, fd, ps, F, hm, hkp, hb⟩ := c.ex
  exact pe_call0 F (hr.mono hk) hg hm hkp hb .nil hx hdb
end

/-! ### a class and its methods -/
/-- a method of the class at C, as the top has left it -/
structure Dm (K : PySem.W.Frag) (C : Addr) (m qual : Str) (st : Stmt) (ps : List Str) : Prop where
  ex : ∃ f fd, Fun K m qual st f fd ∧ PySem.W.findIn K (.ref C) m = some (some (.ref f)) ∧ PySem.W.isFn K (.ref f) = true ∧ Binds K fd ps []
structure Ml (CX : CXT) (P : Program) (w : World) (K : PySem.W.Frag) (mg : Str → Option Value) (base : Heap) (k : Nat) (C : Addr) (m : Str) (sp : Sp) : Prop where
  ex : ∃ f fd ps, FnOk P w K mg base CX k f fd ps sp ∧ Meth K C m f ∧ Binds K fd ps []
structure Mm (CX : CXT) (P : Program) (w : World) (K : PySem.W.Frag) (mg : Str → Option Value) (base : Heap) (k : Nat) (x : Str) (C : Addr) (sp : Sp) : Prop where
  ex : ∃ f fd ps, FnOk P w K mg base CX k f fd ps sp ∧ Mk K C f ∧ mg x = some (.ref C) ∧ Binds K fd ps []
section
variable {CX : CXT} {P : Program} {w : World} {K : PySem.W.Frag} {mg : Str → Option Value} {base : Heap} {k j : Nat} {C : Addr} {x m qual : Str} {sp sp' : Sp} {st : Stmt} {N ps : List Str}
theorem Dm.ok (D : Dm K C m qual st ps) (S : FnScope N ps (defScope st)) (len : ∀ vs H Q E, sp vs H Q E → vs.length = ps.length)
    (hbody : ∀ (f : Addr) (cdv : Value) (A : Around) (outer : List Env) (s : Shared) (H : Hp) (vs : List V) (Q : VK) (E : XK), Room k (A.deeper (envOfC qual (defScope st) s.heap.objs.size f cdv)) → sp vs H Q E →
      ∃ t, PSs (cxOf CX0 P w K mg base N qual (defScope st) f cdv A outer s H E).nox (defBody st) t ∧ t { nx := fun _ H' => Q .non H', rt := Q } (start N vs) H) : Ml CX0 P w K mg base (k + 1) C m sp := by
  obtain ⟨f, fd, F, hm, hf, hb⟩ := D.ex
  exact ⟨f, fd, ps, F.ok S len (hbody f), ⟨hm, hf, F.kp⟩, hb⟩
theorem Dm.okM (D : Dm K C "__init__" qual st ps) (hmk : PySem.W.makesIn K C = true) (hkc : PySem.W.keepIn K (.ref C) = true) (hx : mg x = some (.ref C)) (S : FnScope N ps (defScope st)) (len : ∀ vs H Q E, sp vs H Q E → vs.length = ps.length)
    (hbody : ∀ (f : Addr) (cdv : Value) (A : Around) (outer : List Env) (s : Shared) (H : Hp) (vs : List V) (Q : VK) (E : XK), Room k (A.deeper (envOfC qual (defScope st) s.heap.objs.size f cdv)) → sp vs H Q E →
      ∃ t, PSs (cxOf CX0 P w K mg base N qual (defScope st) f cdv A outer s H E).nox (defBody st) t ∧ t { nx := fun _ H' => Q .non H', rt := Q } (start N vs) H) : Mm CX0 P w K mg base (k + 1) x C sp := by
  obtain ⟨f, fd, F, hm, hf, hb⟩ := D.ex
  exact ⟨f, fd, ps, F.ok S len (hbody f), ⟨hmk, hm, hf, hkc⟩, hx, hb⟩
theorem Ml.lift (c : Ml CX0 P w K mg base k C m sp) : Ml CX P w K mg base k C m sp := by
  obtain ⟨f, fd, ps, F, r⟩ := c.ex
  exact ⟨f, fd, ps, FnOk.lift F, r⟩
theorem Mm.lift (c : Mm CX0 P w K mg base k x C sp) : Mm CX P w K mg base k x C sp := by
  obtain ⟨f, fd, ps, F, r⟩ := c.ex
  exact ⟨f, fd, ps, FnOk.lift F, r⟩
theorem dm_mk {f : Addr} {oc : Value} {od an : Option Addr} {osl : Array (Option Value)} {kV doc pm cdv ct : Value}
    (hb : ∀ (kV doc pm : Value) (an : Option Addr) (cdv ct : Value) (us : List Value), us.length = ps.length → bindArgs (PySem.W.fnOf m qual (defArgs st) (defBody st) (defScope st) .none kV doc pm an cdv ct) ⟨us, []⟩ = pure (ps.zip us))
    (a : PySem.W.findIn K (.ref C) m = some (some (.ref f))) (i : PySem.W.isFn K (.ref f) = true) (l : K.lookup f = some ⟨oc, od, .func (PySem.W.fnOf m qual (defArgs st) (defBody st) (defScope st) .none kV doc pm an cdv ct), osl⟩)
    (c : PySem.W.codeIn K cdv qual = true) (k : PySem.W.keepIn K (.ref f) = true) : Dm K C m qual st ps :=
  ⟨f, _, fun_mk l c k, a, i, Fun.binds (fun_mk l c k) hb⟩
end
section
variable {X : Cx} {CX : CXT} {k j : Nat} {C : Addr} {E : XK} {x m : Str} {sp : Sp} {p pos apos : Pos} {e o : Expr} {es : List Expr} {t : TA} {ta : TE}
theorem ps0 : Passes CX0 X E0 := fun _ _ _ _ _ _ _ h => h.elim
theorem pm {pl : Sem Bool} (cl : Cls X.K C) (c : Ml CX X.prog X.w X.K X.mg X.base k C m sp) (hr : Room j X.A) (hk : k ≤ j) (hx : Passes CX X E) (he : PE X o ta) (ha : PA X (e :: es) t)
    (hst : starEach (e :: es) X.env = (false, eval e X.env) :: starEach es X.env := by rfl) (hpl : (backTo pos (starEach es X.env)).any (·.1) = false := by rfl)
    (ht : eval (.Call (.Attribute o m apos) (e :: es) [] pos) X.env = (do
      let ov ← eval o X.env
      standAt apos.atName
      let (f, first) ← holding [ov] (getMethod ov m pl)
      callWith pos f first (backTo pos (starEach (e :: es) X.env)) (backToKw pos (keywordEach [] X.env))) := by rfl) :
    PE X (.Call (.Attribute o m apos) (e :: es) [] pos) (tMeth C m sp [] E ta t) := by
  obtain ⟨f, fd, ps, F, hm, hb⟩ := c.ex
  exact pe_meth (pl := pl) he cl hm F (hr.mono hk) hb .nil hx ha hst hpl ht
theorem pm0 {pl : Sem Bool} (cl : Cls X.K C) (c : Ml CX X.prog X.w X.K X.mg X.base k C m sp) (hr : Room j X.A) (hk : k ≤ j) (hx : Passes CX X E) (he : PE X o ta)
    (ht : eval (.Call (.Attribute o m apos) [] [] pos) X.env = (do
      let ov ← eval o X.env
      standAt apos.atName
      let (f, first) ← holding [ov] (getMethod ov m pl)
      callWith pos f first (backTo pos (starEach [] X.env)) (backToKw pos (keywordEach [] X.env))) := by rfl) :
    PE X (.Call (.Attribute o m apos) [] [] pos) (tMeth C m sp [] E ta tNil) := by
  obtain ⟨f, fd, ps, F, hm, hb⟩ := c.ex
  exact pe_meth0 (pl := pl) he cl hm F (hr.mono hk) hb .nil hx ht
theorem pk (c : Mm CX X.prog X.w X.K X.mg X.base k x C sp) (hr : Room j X.A) (hk : k + 1 ≤ j) (hg : Gl X x) (hx : Passes CX X E) (ha : PA X (e :: es) t)
    (hdb : (x == ("__debug__" : Str)) = false := by decide) (he : starEach (e :: es) X.env = (false, eval e X.env) :: starEach es X.env := by rfl) (hpl : (backTo pos (starEach es X.env)).any (·.1) = false := by rfl) :
    PE X (.Call (.Name x p) (e :: es) [] pos) (tMake C sp [] E t) := by
  obtain ⟨f, fd, ps, F, M, hm, hb⟩ := c.ex
  exact pe_make M F (hr.mono hk) hg hm hb .nil hx ha hdb he hpl
theorem pk0 (c : Mm CX X.prog X.w X.K X.mg X.base k x C sp) (hr : Room j X.A) (hk : k + 1 ≤ j) (hg : Gl X x) (hx : Passes CX X E)
    (hdb : (x == ("__debug__" : Str)) = false := by decide) : PE X (.Call (.Name x p) [] [] pos) (tMake C sp [] E tNil) := by
  obtain ⟨f, fd, ps, F, M, hm, hb⟩ := c.ex
  exact pe_make0 M F (hr.mono hk) hg hm hb .nil hx hdb
end

theorem szlt {n m : Nat} (h : n ≤ m) (hm : m ≤ 100000) : n < sizeLine := Nat.lt_of_le_of_lt (Nat.le_trans h hm) (by decide)
theorem szle {n m : Nat} (h : n ≤ m) (hm : m ≤ 100000) : n ≤ sizeLine := Nat.le_of_lt (szlt h hm)
theorem at0 {α : Type} {x : α} {xs : List α} : atI (x :: xs) 0 = some x := atI_nat (j := 0) rfl
theorem at1 {α : Type} {x y : α} {xs : List α} : atI (x :: y :: xs) 1 = some y := atI_nat (j := 1) rfl
theorem at2 {α : Type} {x y z : α} {xs : List α} : atI (x :: y :: z :: xs) 2 = some z := atI_nat (j := 2) rfl
theorem hA_gr {H H1 : Hp} {p : Addr} {o : HO} (h : upd H p o = H1) (hp : H p = none) : Gr H H1 ∧ H1 p = some o := by subst h; exact ⟨Gx.new hp, upd_same⟩
theorem pgc {X : Cx} {x : Str} {pos : Pos} {v : V} (hg : Gl X x) (h : ∃ u, X.mg x = some u ∧ RelV v u) (hd : (x == ("__debug__" : Str)) = false := by decide) : PE X (.Name x pos) (tC v) := by
  obtain ⟨u, h1, h2⟩ := h
  exact pe_glob hg h1 h2 hd

/-! ### the box: a list [digits, place] -/
structure Bx (H : Hp) (b : Addr) : Prop where
  ex : ∃ (dg : Addr) (at_ : Int) (ds : List Int), H b = some (.lst [.ref dg, .int at_]) ∧ 0 ≤ at_ ∧ H dg = some (.lst (ds.map V.int)) ∧ ds.length ≤ 4000 ∧ (∀ d ∈ ds, 0 ≤ d ∧ d < 1000) ∧ dg ≠ b
theorem Bx.gx {S : List Addr} {H H' : Hp} {b : Addr} (x : Gx S H H') (h : ∀ a ∈ S, a ≠ b ∧ ∀ xs, H a ≠ some (.lst xs)) (B : Bx H b) : Bx H' b := by
  obtain ⟨dg, at_, ds, h1, h2, h3, h4, h5, h6⟩ := B.ex
  exact ⟨dg, at_, ds, x.lst h1 fun m => (h b m).1 rfl, h2, x.lst h3 (fun m => (h dg m).2 _ h3), h4, h5, h6⟩
theorem Bx.gr {H H' : Hp} {b : Addr} (x : Gr H H') (B : Bx H b) : Bx H' b := B.gx x fun a h => nomatch h
end Cs

namespace Cs
open PySem PySem.Spec PyProof.Rows L2
namespace Fm
def isLt : Fm → Bool
  | .lt _ => true | _ => false
def isIm : Fm → Bool
  | .im _ _ => true | _ => false
def tag : Fm → Str
  | .lt _ => "letter" | .ng _ => "not" | .im _ _ => "if"
def kids : Fm → List Fm
  | .lt _ => [] | .ng p => [p] | .im p q => [p, q]
def put (t : Str → Option Fm) : Fm → Fm
  | .lt n => (t n).getD (.lt n)
  | .ng p => .ng (p.put t)
  | .im p q => .im (p.put t) (q.put t)
theorem d_node : ∀ {f : Fm}, f.isLt = false → f.d = .tuple (.str f.tag :: f.kids.map d)
  | .lt _, h => nomatch h
  | .ng _, _ => rfl
  | .im _ _, _ => rfl
theorem put_node (t : Str → Option Fm) : ∀ {f : Fm}, f.isLt = false → (f.put t).d = .tuple (.str f.tag :: f.kids.map fun g => (g.put t).d)
  | .lt _, h => nomatch h
  | .ng _, _ => rfl
  | .im _ _, _ => rfl
theorem tag_ne : ∀ {f : Fm}, f.isLt = false → decide (V.str f.tag = V.str "letter") = false
  | .lt _, h => nomatch h
  | .ng _, _ => (by decide +kernel : decide (V.str "not" = V.str "letter") = false)
  | .im _ _, _ => (by decide +kernel : decide (V.str "if" = V.str "letter") = false)
theorem kids_ne : ∀ {f : Fm}, f.isLt = false → f.kids ≠ []
  | .lt _, h => nomatch h
  | .ng _, _ => List.cons_ne_nil _ _
  | .im _ _, _ => List.cons_ne_nil _ _
theorem kids_len : ∀ f : Fm, f.kids.length ≤ 2
  | .lt _ => Nat.zero_le _
  | .ng _ => Nat.le_succ _
  | .im _ _ => Nat.le_refl _
theorem kids_depth : ∀ {f g : Fm}, g ∈ f.kids → g.depth < f.depth
  | .lt _, _, h => nomatch h
  | .ng p, g, h => by
    rw [List.mem_singleton.mp h]; exact Nat.lt_succ_self _
  | .im p q, g, h => by
    have e : (Fm.im p q).depth = max p.depth q.depth + 1 := rfl
    rcases List.mem_cons.mp h with h | h
    · rw [h, e]; exact Nat.lt_succ_of_le (Nat.le_max_left _ _)
    · rw [List.mem_singleton.mp h, e]; exact Nat.lt_succ_of_le (Nat.le_max_right _ _)
theorem depth_pos : ∀ f : Fm, 1 ≤ f.depth
  | .lt _ => Nat.le_refl _
  | .ng _ => Nat.le_add_left _ _
  | .im _ _ => Nat.le_add_left _ _
/-- letters for letters: the same size, the new letters -/
theorem put_lets {t : Str → Option Fm} {A : List Str} {B : Str → Prop} (h : ∀ n ∈ A, ∃ m, t n = some (.lt m) ∧ B m) : ∀ f : Fm, (∀ x ∈ f.lets, x ∈ A) → (f.put t).size = f.size ∧ ∀ x ∈ (f.put t).lets, B x
  | .lt n, hf => by
    obtain ⟨m, e, b⟩ := h n (hf n (List.mem_singleton_self _))
    show ((t n).getD (.lt n)).size = 1 ∧ ∀ x ∈ ((t n).getD (.lt n)).lets, B x
    rw [e]
    exact ⟨rfl, fun x hx => by rw [List.mem_singleton.mp hx]; exact b⟩
  | .ng p, hf => by
    obtain ⟨a, b⟩ := put_lets h p hf
    exact ⟨by show 1 + (p.put t).size = 1 + p.size; rw [a], b⟩
  | .im p q, hf => by
    obtain ⟨a, b⟩ := put_lets h p fun x hx => hf x (List.mem_append_left _ hx)
    obtain ⟨a2, b2⟩ := put_lets h q fun x hx => hf x (List.mem_append_right _ hx)
    exact ⟨by show 1 + ((p.put t).size + (q.put t).size) = 1 + (p.size + q.size); rw [a, a2], fun x hx => (List.mem_append.mp hx).elim (b x) (b2 x)⟩
/-- the text -/
def tx : Fm → List Nat
  | .lt n => n.cps.toList
  | .ng p => 126 :: (if p.isIm then [40] ++ p.tx ++ [41] else p.tx)
  | .im p q => (if p.isIm then [40] ++ p.tx ++ [41] else p.tx) ++ [32, 45, 62, 32] ++ q.tx
def gr (p : Fm) : List Nat := if p.isIm then [40] ++ p.tx ++ [41] else p.tx
theorem tx_ng (p : Fm) : (Fm.ng p).tx = 126 :: p.gr := rfl
theorem tx_im (p q : Fm) : (Fm.im p q).tx = p.gr ++ [32, 45, 62, 32] ++ q.tx := rfl
/-- letters of at most two signs -/
def Sh (f : Fm) : Prop := ∀ x ∈ f.lets, x.length ≤ 2
theorem Sh.ng {p : Fm} (h : Sh (.ng p)) : Sh p := h
theorem Sh.l {p q : Fm} (h : Sh (.im p q)) : Sh p := fun x hx => h x (List.mem_append_left _ hx)
theorem Sh.r {p q : Fm} (h : Sh (.im p q)) : Sh q := fun x hx => h x (List.mem_append_right _ hx)
theorem tx_len : ∀ (f : Fm), Sh f → f.tx.length ≤ 8 * f.size
  | .lt n, h => by
    have := h n (List.mem_singleton_self _)
    show n.cps.toList.length ≤ 8 * 1
    rw [Array.length_toList]; exact Nat.le_trans this (by omega)
  | .ng p, h => by
    have ih := tx_len p h.ng
    simp only [tx, size]
    split <;> simp only [List.length_cons, List.length_append, List.length_nil] <;> omega
  | .im p q, h => by
    have i1 := tx_len p h.l
    have i2 := tx_len q h.r
    simp only [tx, size]
    split <;> simp only [List.length_cons, List.length_append, List.length_nil] <;> omega
theorem gr_len (f : Fm) (h : Sh f) : f.gr.length ≤ 8 * f.size + 2 := by
  have := tx_len f h
  unfold gr
  split
  · simp only [List.length_cons, List.length_append, List.length_nil]; omega
  · omega
end Fm
section
variable {K : PySem.W.Frag} {H H' : Hp} {v : V} {f : Fm}
theorem fm_node (h : FmV K H v f) (hl : f.isLt = false) : ∃ a xs, v = .ref a ∧ SqT K H a (.str f.tag :: xs) ∧ DtAll K H xs (f.kids.map Fm.d) := by
  unfold FmV at h
  rw [Fm.d_node hl] at h
  obtain ⟨a, xs, rfl, h1, h2⟩ := h.tupI
  cases h2 with
  | cons q1 r1 => cases q1; exact ⟨a, _, rfl, h1, r1⟩
theorem fm_tup (h : FmV K H v f) : ∃ a xs, v = .ref a ∧ SqT K H a (.str f.tag :: xs) := by
  rcases h.c with h1 | ⟨h1, _⟩ | ⟨h1, _, _⟩ <;> exact ⟨_, _, rfl, h1⟩
end

/-! ### tables: dicts from letters to formulas -/
structure Tb (K : PySem.W.Frag) (H : Hp) (d : Addr) (N : Nat) (t : Str → Option Fm) : Prop where
  ex : ∃ kvs : List (Key × V), H d = some (.dK kvs) ∧ kvs.length ≤ N ∧ ∀ n, (t n = none ∧ valV kvs (.inr n) = none) ∨ ∃ f v, t n = some f ∧ valV kvs (.inr n) = some v ∧ FmV K H v f
theorem Tb.gx {K : PySem.W.Frag} {S : List Addr} {H H' : Hp} {d : Addr} {N : Nat} {t : Str → Option Fm} (x : Gx S H H') (n : d ∉ S) (T : Tb K H d N t) : Tb K H' d N t := by
  obtain ⟨kvs, h1, h2, h3⟩ := T.ex
  exact ⟨kvs, x.keep _ _ n h1 (fun ps e => nomatch e), h2, fun m => (h3 m).imp id fun ⟨f, v, a, b, c⟩ => ⟨f, v, a, b, x.dt c⟩⟩
theorem putK_len {κ : Type} [DecidableEq κ] (kvs : List (κ × V)) (k : κ) (v : V) : (putK kvs k v).length ≤ kvs.length + 1 := by
  unfold putK
  split
  · rw [List.length_map]; omega
  · rw [List.length_append]; exact Nat.le_refl _
theorem Tb.dput {K : PySem.W.Frag} {H : Hp} {d : Addr} {N : Nat} {t : Str → Option Fm} {v : V} {f : Fm} (n : Str) (T : Tb K H d N t) (hf : FmV K H v f) :
    ∃ kvs, H d = some (.dK kvs) ∧ kvs.length ≤ N ∧ Gx [d] H (upd H d (.dK (putK kvs (.inr n) v))) ∧ Tb K (upd H d (.dK (putK kvs (.inr n) v))) d (N + 1) (fun m => if m = n then some f else t m) := by
  obtain ⟨kvs, h1, h2, h3⟩ := T.ex
  have g : Gx [d] H (upd H d (.dK (putK kvs (.inr n) v))) := Gx.set h1 rfl
  refine ⟨kvs, h1, h2, g, _, upd_same, Nat.le_trans (putK_len _ _ _) (Nat.succ_le_succ h2), fun m => ?_⟩
  rw [valV_put]
  by_cases e : m = n
  · subst e
    exact .inr ⟨f, v, if_pos rfl, if_pos rfl, g.dt hf⟩
  · have e2 : ¬ (Sum.inr m : Key) = Sum.inr n := fun z => e (Sum.inr.inj z)
    rw [if_neg e2]
    rcases h3 m with ⟨a, b⟩ | ⟨f', v', a, b, c⟩
    · exact .inl ⟨by show (if m = n then some f else t m) = none; rw [if_neg e]; exact a, b⟩
    · exact .inr ⟨f', v', by show (if m = n then some f else t m) = some f'; rw [if_neg e]; exact a, b, g.dt c⟩
theorem Tb.new {K : PySem.W.Frag} {H : Hp} {d : Addr} (h : H d = some (.dK [])) : Tb K H d 0 (fun _ => none) := ⟨[], h, Nat.le_refl _, fun n => .inl ⟨rfl, rfl⟩⟩
theorem tyx_tup {K : PySem.W.Frag} {H : Hp} {a : Addr} {xs : List V} (h : SqT K H a xs) : TyX K H (.ref a) (.type "tuple") := by
  rcases h with (h | ⟨o, h⟩) | ⟨o, its, n, h, c, _⟩
  · exact .base (.tup h)
  · exact .fTuple h
  · exact .kTuple h c

theorem depthAll_mem : ∀ {ds : List PyData} {d : PyData}, d ∈ ds → d.depth ≤ PyData.depthAll ds
  | [], _, h => nomatch h
  | e :: ds, d, h => by
    simp only [PyData.depthAll]
    rcases List.mem_cons.mp h with rfl | h
    · exact Nat.le_max_left _ _
    · exact Nat.le_trans (depthAll_mem h) (Nat.le_max_right _ _)
/-- tuples of few items -/
def fine : PyData → Bool
  | .tuple ds => decide (ds.length ≤ 100000) && fines ds
  | _ => true
where fines : List PyData → Bool
  | [] => true
  | d :: ds => fine d && fines ds
theorem fines_mem : ∀ {ds : List PyData} {d : PyData}, fine.fines ds = true → d ∈ ds → fine d = true
  | [], _, _, h => nomatch h
  | e :: ds, d, h, m => by
    have h' : (fine e && fine.fines ds) = true := by rw [fine.fines] at h; exact h
    rw [Bool.and_eq_true] at h'
    rcases List.mem_cons.mp m with rfl | m
    · exact h'.1
    · exact fines_mem h'.2 m
theorem fine_tup {ds : List PyData} (h : fine (.tuple ds) = true) : ds.length ≤ 100000 ∧ ∀ d ∈ ds, fine d = true := by
  rw [fine, Bool.and_eq_true, decide_eq_true_eq] at h
  exact ⟨h.1, fun d m => fines_mem h.2 m⟩
theorem fine_mk {ds : List PyData} (h : ds.length ≤ 100000) (h2 : ∀ d ∈ ds, fine d = true) : fine (.tuple ds) = true := by
  rw [fine, Bool.and_eq_true, decide_eq_true_eq]
  refine ⟨h, ?_⟩
  clear h
  induction ds with
  | nil => rw [fine.fines]
  | cons d ds ih => rw [fine.fines, h2 d List.mem_cons_self, ih fun e m => h2 e (List.mem_cons_of_mem _ m)]; rfl
theorem Fm.d_fine : ∀ f : Fm, fine f.d = true
  | .lt n => by simp [Fm.d, fine, fine.fines]
  | .ng p => by simp [Fm.d, fine, fine.fines, d_fine p]
  | .im p q => by simp [Fm.d, fine, fine.fines, d_fine p, d_fine q]
theorem Fm.d_depth : ∀ f : Fm, f.d.depth = f.depth
  | .lt n => by simp [Fm.d, Fm.depth, PyData.depth, PyData.depthAll]
  | .ng p => by simp [Fm.d, Fm.depth, PyData.depth, PyData.depthAll, d_depth p]
  | .im p q => by simp [Fm.d, Fm.depth, PyData.depth, PyData.depthAll, d_depth p, d_depth q]
end Cs

namespace Cs
open PySem PySem.Spec PyProof.Rows L2
/-! ### reading a text sign by sign: plain law -/
def small (c : Nat) : Bool := decide (97 ≤ c) && decide (c ≤ 122)
def digit (c : Nat) : Bool := decide (48 ≤ c) && decide (c ≤ 57)
abbrev Grp := List Fm × Nat
def negs : Nat → Fm → Fm
  | 0, f => f
  | n + 1, f => negs n (.ng f)
def grpF : List Fm → Fm
  | [] => .lt ⟨#[]⟩
  | [f] => f
  | f :: r => .im f (grpF r)
structure RS where
  p : Nat
  gs : List Grp      -- the top first
  wants : Bool
def addG (f : Fm) : List Grp → List Grp
  | [] => []
  | (ps, n) :: r => (ps ++ [negs n f], 0) :: r
def nameAt (t : List Nat) (p c : Nat) : List Nat := match t[p + 1]? with
  | some d => if digit d then [c, d] else [c]
  | none => [c]
def startS (t : List Nat) (s : RS) (c : Nat) : Option RS :=
  if c = 126 then match s.gs with
    | (ps, n) :: r => some ⟨s.p + 1, (ps, n + 1) :: r, s.wants⟩
    | [] => none
  else if c = 40 then some ⟨s.p + 1, ([], 0) :: s.gs, s.wants⟩
  else if small c then some ⟨s.p + (nameAt t s.p c).length, addG (.lt ⟨(nameAt t s.p c).toArray⟩) s.gs, false⟩
  else none
def goS (t : List Nat) (s : RS) (c : Nat) : Option RS :=
  if c = 45 then (if t[s.p + 1]? = some 62 then some ⟨s.p + 2, s.gs, true⟩ else none)
  else if c = 41 then match s.gs with
    | g :: h :: r => some ⟨s.p + 1, addG (grpF g.1) (h :: r), s.wants⟩
    | _ => none
  else none
def stepS (t : List Nat) (s : RS) : Option RS := match t[s.p]? with
  | none => none
  | some c => if c = 32 then some ⟨s.p + 1, s.gs, s.wants⟩ else if s.wants then startS t s c else goS t s c
inductive Run (t : List Nat) : RS → RS → Prop
  | refl (s : RS) : Run t s s
  | more {s s1 s2 : RS} : stepS t s = some s1 → Run t s1 s2 → Run t s s2
theorem Run.trans {t : List Nat} {a b c : RS} (x : Run t a b) (y : Run t b c) : Run t a c := by
  induction x with
  | refl => exact y
  | more h _ ih => exact .more h (ih y)
/-- a name of a letter -/
def Nm (n : Str) : Prop := ∃ c, small c = true ∧ (n.cps.toList = [c] ∨ ∃ d, digit d = true ∧ n.cps.toList = [c, d])
def Named (f : Fm) : Prop := ∀ x ∈ f.lets, Nm x
theorem Named.ng {p : Fm} (h : Named (.ng p)) : Named p := h
theorem Named.l {p q : Fm} (h : Named (.im p q)) : Named p := fun x hx => h x (List.mem_append_left _ hx)
theorem Named.r {p q : Fm} (h : Named (.im p q)) : Named q := fun x hx => h x (List.mem_append_right _ hx)
/-- no digit comes next -/
def Nxt (r : List Nat) : Prop := ∀ c, r.head? = some c → digit c = false
def spine : Fm → List Fm
  | .im p q => p :: spine q
  | f => [f]
theorem spine_ne : ∀ f : Fm, spine f ≠ []
  | .im _ _ => List.cons_ne_nil _ _
  | .lt _ => List.cons_ne_nil _ _
  | .ng _ => List.cons_ne_nil _ _
theorem grpF_spine : ∀ f : Fm, grpF (spine f) = f
  | .lt _ => rfl
  | .ng _ => rfl
  | .im p q => by
    have h := grpF_spine q
    show grpF (p :: spine q) = .im p q
    cases e : spine q with
    | nil => exact absurd e (spine_ne q)
    | cons x r => rw [e] at h; show Fm.im p (grpF (x :: r)) = _; rw [h]
theorem at_app {pre r : List Nat} {c : Nat} : (pre ++ c :: r)[pre.length]? = some c := by
  rw [List.getElem?_append_right (Nat.le_refl _), Nat.sub_self]; rfl
theorem at_app1 {pre r : List Nat} {c d : Nat} : (pre ++ c :: d :: r)[pre.length + 1]? = some d := by
  rw [List.getElem?_append_right (Nat.le_succ _), show pre.length + 1 - pre.length = 1 by omega]; rfl
theorem at_app1' {pre r : List Nat} {c : Nat} : (pre ++ c :: r)[pre.length + 1]? = r.head? := by
  rw [List.getElem?_append_right (Nat.le_succ _), show pre.length + 1 - pre.length = 1 by omega]
  cases r <;> rfl
theorem small_ne {c : Nat} (h : small c = true) : c ≠ 32 ∧ c ≠ 126 ∧ c ≠ 40 ∧ c ≠ 45 ∧ c ≠ 41 := by
  unfold small at h
  rw [Bool.and_eq_true, decide_eq_true_eq, decide_eq_true_eq] at h
  omega
theorem run_letter {pre rest : List Nat} {n : Str} (hn : Nm n) (hr : Nxt rest) (ps : List Fm) (k : Nat) (gs : List Grp) :
    Run (pre ++ (n.cps.toList ++ rest)) ⟨pre.length, (ps, k) :: gs, true⟩ ⟨pre.length + n.cps.toList.length, (ps ++ [negs k (.lt n)], 0) :: gs, false⟩ := by
  obtain ⟨c, hc, h⟩ := hn
  obtain ⟨c1, c2, c3, c4, c5⟩ := small_ne hc
  have nn : ∀ l : List Nat, n.cps.toList = l → (⟨l.toArray⟩ : Str) = n := fun l e => by rw [← e]
  rcases h with e | ⟨d, hd, e⟩
  · rw [e]
    refine .more ?_ (.refl _)
    unfold stepS
    rw [show (pre ++ ([c] ++ rest)) = pre ++ c :: rest from rfl, at_app]
    simp only [if_neg c1, if_true]
    unfold startS
    rw [if_neg c2, if_neg c3, if_pos hc]
    have en : nameAt (pre ++ c :: rest) pre.length c = [c] := by
      unfold nameAt
      rw [at_app1']
      cases q : rest.head? with
      | none => rfl
      | some d => show (if digit d = true then [c, d] else [c]) = [c]; rw [hr d q]; rfl
    simp only [en, nn _ e]
    rfl
  · rw [e]
    refine .more ?_ (.refl _)
    unfold stepS
    rw [show (pre ++ ([c, d] ++ rest)) = pre ++ c :: d :: rest from rfl, at_app]
    simp only [if_neg c1, if_true]
    unfold startS
    rw [if_neg c2, if_neg c3, if_pos hc]
    have en : nameAt (pre ++ c :: d :: rest) pre.length c = [c, d] := by
      unfold nameAt
      rw [at_app1]
      show (if digit d = true then [c, d] else [c]) = [c, d]
      rw [hd]; rfl
    simp only [en, nn _ e]
    rfl
theorem nxt_sp {r : List Nat} {c : Nat} (h : digit c = false) : Nxt (c :: r) := fun d e => by
  have : c = d := Option.some.inj e
  rw [← this]; exact h
theorem Nxt.nil : Nxt [] := fun c h => nomatch h
theorem step_ng {pre r : List Nat} {ps : List Fm} {k : Nat} {gs : List Grp} : stepS (pre ++ 126 :: r) ⟨pre.length, (ps, k) :: gs, true⟩ = some ⟨pre.length + 1, (ps, k + 1) :: gs, true⟩ := by
  unfold stepS
  rw [at_app]; rfl
theorem step_lp {pre r : List Nat} {gs : List Grp} : stepS (pre ++ 40 :: r) ⟨pre.length, gs, true⟩ = some ⟨pre.length + 1, ([], 0) :: gs, true⟩ := by
  unfold stepS
  rw [at_app]; rfl
theorem step_rp {pre r : List Nat} {g h : Grp} {gs : List Grp} : stepS (pre ++ 41 :: r) ⟨pre.length, g :: h :: gs, false⟩ = some ⟨pre.length + 1, addG (grpF g.1) (h :: gs), false⟩ := by
  unfold stepS
  rw [at_app]; rfl
theorem step_sp {pre r : List Nat} {gs : List Grp} {w : Bool} : stepS (pre ++ 32 :: r) ⟨pre.length, gs, w⟩ = some ⟨pre.length + 1, gs, w⟩ := by
  unfold stepS
  rw [at_app]; rfl
theorem step_ar {pre r : List Nat} {gs : List Grp} : stepS (pre ++ 45 :: 62 :: r) ⟨pre.length, gs, false⟩ = some ⟨pre.length + 2, gs, true⟩ := by
  unfold stepS
  rw [at_app]
  show goS _ _ 45 = _
  unfold goS
  rw [at_app1]; rfl
theorem len1 (pre : List Nat) (c : Nat) : (pre ++ [c]).length = pre.length + 1 := by rw [List.length_append]; rfl
theorem mv1 (pre : List Nat) (c : Nat) (r : List Nat) : pre ++ c :: r = (pre ++ [c]) ++ r := by rw [List.append_assoc]; rfl
mutual
theorem run_gr : ∀ (f : Fm), Named f → ∀ (pre rest : List Nat), Nxt rest → ∀ (ps : List Fm) (k : Nat) (gs : List Grp),
    Run (pre ++ (f.gr ++ rest)) ⟨pre.length, (ps, k) :: gs, true⟩ ⟨pre.length + f.gr.length, (ps ++ [negs k f], 0) :: gs, false⟩
  | .lt n, hn, pre, rest, hr, ps, k, gs => run_letter (hn n (List.mem_singleton_self _)) hr ps k gs
  | .ng p, hn, pre, rest, hr, ps, k, gs => by
    have ih := run_gr p hn.ng (pre ++ [126]) rest hr ps (k + 1) gs
    rw [len1] at ih
    have e : (Fm.ng p).gr = 126 :: p.gr := rfl
    rw [e, List.cons_append, mv1]
    refine .more (by rw [← mv1]; exact step_ng) ?_
    rw [show pre.length + (126 :: p.gr).length = pre.length + 1 + p.gr.length by rw [List.length_cons]; omega]
    exact ih
  | .im p q, hn, pre, rest, hr, ps, k, gs => by
    have ih := run_tx (.im p q) hn (pre ++ [40]) (41 :: rest) (nxt_sp rfl) [] (((ps, k)) :: gs)
    rw [len1] at ih
    have e : (Fm.im p q).gr = 40 :: ((Fm.im p q).tx ++ [41]) := rfl
    rw [e, List.cons_append, mv1, List.append_assoc (Fm.im p q).tx]
    refine .more (by rw [← mv1]; exact step_lp) (ih.trans (.more (s1 := ⟨pre.length + 1 + (Fm.im p q).tx.length + 1, addG (grpF ([] ++ spine (.im p q))) ((ps, k) :: gs), false⟩) ?_ ?_))
    · have e2 : (pre ++ [40]) ++ ((Fm.im p q).tx ++ 41 :: rest) = ((pre ++ [40]) ++ (Fm.im p q).tx) ++ 41 :: rest := (List.append_assoc _ _ _).symm
      have e3 : ((pre ++ [40]) ++ (Fm.im p q).tx).length = pre.length + 1 + (Fm.im p q).tx.length := by rw [List.length_append, len1]
      rw [e2, ← e3]
      exact step_rp
    · rw [List.nil_append, grpF_spine, show pre.length + (40 :: ((Fm.im p q).tx ++ [41])).length = pre.length + 1 + (Fm.im p q).tx.length + 1 by rw [List.length_cons, List.length_append]; simp only [List.length_cons, List.length_nil]; omega]
      exact .refl _
theorem run_tx : ∀ (f : Fm), Named f → ∀ (pre rest : List Nat), Nxt rest → ∀ (ps : List Fm) (gs : List Grp),
    Run (pre ++ (f.tx ++ rest)) ⟨pre.length, (ps, 0) :: gs, true⟩ ⟨pre.length + f.tx.length, (ps ++ spine f, 0) :: gs, false⟩
  | .lt n, hn, pre, rest, hr, ps, gs => run_letter (hn n (List.mem_singleton_self _)) hr ps 0 gs
  | .ng p, hn, pre, rest, hr, ps, gs => by
    have ih := run_gr p hn.ng (pre ++ [126]) rest hr ps 1 gs
    rw [len1] at ih
    rw [Fm.tx_ng, List.cons_append, mv1]
    refine .more (by rw [← mv1]; exact step_ng) ?_
    rw [show pre.length + (126 :: p.gr).length = pre.length + 1 + p.gr.length by rw [List.length_cons]; omega]
    exact ih
  | .im p q, hn, pre, rest, hr, ps, gs => by
    have i1 := run_gr p hn.l pre (32 :: 45 :: 62 :: 32 :: (q.tx ++ rest)) (nxt_sp rfl) ps 0 gs
    have i2 := run_tx q hn.r (pre ++ p.gr ++ [32, 45, 62, 32]) rest hr (ps ++ [p]) gs
    have e : pre ++ ((Fm.im p q).tx ++ rest) = pre ++ (p.gr ++ (32 :: 45 :: 62 :: 32 :: (q.tx ++ rest))) := by
      rw [Fm.tx_im]; simp only [List.append_assoc]; rfl
    rw [e]
    refine i1.trans ?_
    have e1 : pre ++ (p.gr ++ (32 :: 45 :: 62 :: 32 :: (q.tx ++ rest))) = (pre ++ p.gr) ++ 32 :: 45 :: 62 :: 32 :: (q.tx ++ rest) := by rw [List.append_assoc]
    have l1 : pre.length + p.gr.length = (pre ++ p.gr).length := by rw [List.length_append]
    rw [e1, l1]
    refine .more step_sp ?_
    rw [mv1, ← len1]
    refine .more step_ar ?_
    have e2 : pre ++ p.gr ++ [32] ++ 45 :: 62 :: 32 :: (q.tx ++ rest) = (pre ++ p.gr ++ [32, 45, 62]) ++ 32 :: (q.tx ++ rest) := by simp only [List.append_assoc]; rfl
    have l2 : (pre ++ p.gr ++ [32]).length + 2 = (pre ++ p.gr ++ [32, 45, 62]).length := by simp only [List.length_append]; rfl
    rw [e2, l2]
    refine .more step_sp ?_
    have e3 : (pre ++ p.gr ++ [32, 45, 62]) ++ 32 :: (q.tx ++ rest) = (pre ++ p.gr ++ [32, 45, 62, 32]) ++ (q.tx ++ rest) := by simp only [List.append_assoc]; rfl
    have l3 : (pre ++ p.gr ++ [32, 45, 62]).length + 1 = (pre ++ p.gr ++ [32, 45, 62, 32]).length := by simp only [List.length_append]; rfl
    rw [e3, l3]
    have l4 : (pre ++ p.gr ++ [32, 45, 62, 32]).length + q.tx.length = pre.length + (Fm.im p q).tx.length := by rw [Fm.tx_im]; simp only [List.length_append]; omega
    rw [show (pre ++ p.gr).length = pre.length + p.gr.length by rw [List.length_append]] at *
    rw [l4, List.append_assoc ps] at i2
    exact i2
end
theorem read_tx {f : Fm} (h : Named f) : Run f.tx ⟨0, [([], 0)], true⟩ ⟨f.tx.length, [(spine f, 0)], false⟩ := by
  have q := run_tx f h [] [] .nil [] []
  rw [List.append_nil, List.nil_append] at q
  rw [show ([] : List Nat).length + f.tx.length = f.tx.length by rw [List.length_nil, Nat.zero_add]] at q
  exact q
end Cs

namespace Cs
open PySem PySem.Spec PyProof.Rows L2
/-! ### xs[-2::-1]: all but the last one, from behind -/
theorem fm_congr {α β : Type} {f g : α → Option β} : ∀ {l : List α}, (∀ x ∈ l, f x = g x) → l.filterMap f = l.filterMap g
  | [], _ => rfl
  | x :: l, h => by
    rw [List.filterMap_cons, List.filterMap_cons, h x List.mem_cons_self, fm_congr fun y hy => h y (List.mem_cons_of_mem _ hy)]
theorem back_pick (items : List Value) : slicePick items.toArray (some (-2)) none (some (-1)) = items.dropLast.reverse.toArray := by
  have hb : sliceBounds (some (-2)) none (some (-1)) items.toArray.size = (((items.dropLast.toArray.size : Nat) : Int) - 1, -1, -1) := by
    simp only [sliceBounds, List.size_toArray, List.length_dropLast, Option.getD_some]
    refine Prod.ext ?_ rfl
    show max (-1) (min ((-2 : Int) + (items.length : Int)) ((items.length : Int) - 1)) = ((items.length - 1 : Nat) : Int) - 1
    omega
  unfold slicePick
  rw [hb]
  show ((sliceRange (((items.dropLast.toArray.size : Nat) : Int) - 1) (-1) (-1)).filterMap (items.toArray[·]?)).toArray = _
  have e : (sliceRange (((items.dropLast.toArray.size : Nat) : Int) - 1) (-1) (-1)).filterMap (items.toArray[·]?) = (sliceRange (((items.dropLast.toArray.size : Nat) : Int) - 1) (-1) (-1)).filterMap (items.dropLast.toArray[·]?) := by
    rw [PySem.W.krv_sliceRange, PySem.W.krv_range]
    refine fm_congr fun j hj => ?_
    have hj' : j < items.dropLast.length := by
      have := List.mem_range.mp (List.mem_reverse.mp hj)
      simpa using this
    show items.toArray[j]? = items.dropLast.toArray[j]?
    rw [List.getElem?_toArray, List.getElem?_toArray, List.getElem?_dropLast, if_pos (by rw [List.length_dropLast] at hj'; exact hj')]
  rw [e]
  have := PySem.W.krv_pick items.dropLast.toArray
  unfold slicePick at this
  rw [PySem.W.krv_bounds] at this
  exact this
def tBackL (K : PySem.W.Frag) (te : TE) : TE := fun σ H Q => te σ H fun x H1 => ∃ a xs, x = .ref a ∧ SqL K H1 a xs ∧ ∀ p, H1 p = none → Q (.ref p) (upd H1 p (.lst xs.dropLast.reverse))
theorem pe_backL {X : Cx} {e : Expr} {te : TE} {k k2 : Nat} {p1 p2 p3 p4 p5 pos : Pos} (he : PE X e te) : PE X (.Subscript e (.Slice (some (.UnaryOp .USub (.Constant (.int 2) k2 p4) p5)) none (some (.UnaryOp .USub (.Constant (.int 1) k p1) p2)) p3) pos) (tBackL X.K te) := by
  refine ⟨fun pins s σ H Q I h => ?_⟩
  refine Subscript_ (thn (he.run pins s σ H _ I h) fun v s1 ⟨x, H1, I1, r1, q1⟩ => ?_)
  obtain ⟨a, xs, ex, hx, q⟩ := q1
  subst ex
  cases r1
  have hst : PO X (some (.UnaryOp .USub (.Constant (.int 1) k p1) p2)) (tPart (tUn (rU fun i => .int (-i)) (tC (.int 1)))) := po_some (pe_un un_neg pe_int)
  have hlo : PO X (some (.UnaryOp .USub (.Constant (.int 2) k2 p4) p5)) (tPart (tUn (rU fun i => .int (-i)) (tC (.int 2)))) := po_some (pe_un un_neg pe_int)
  refine wpAny_Slice (thn (hlo.run pins s1 σ H1 (fun o H2 => o = some (-2) ∧ H2 = H1) I1 ⟨2, rfl, -2, rfl, rfl, rfl⟩) fun vl s2 ⟨l, H2, I2, pl, el, e2⟩ => ?_)
  subst el e2
  refine thn (po_none.run pins s2 σ H2 (fun o H3 => o = none ∧ H3 = H2) I2 ⟨rfl, rfl⟩) fun vu s3 ⟨u, H3, I3, pu, eu, e3⟩ => ?_
  subst eu e3
  refine thn (hst.run pins s3 σ H3 (fun o H4 => o = some (-1) ∧ H4 = H3) I3 ⟨1, rfl, -1, rfl, rfl, rfl⟩) fun vs s4 ⟨o, H4, I4, ps, eo, e4⟩ => ?_
  subst eo e4
  have I5 : Inv X pins σ H4 { s4 with heap := s4.heap.push { cls := .type "slice", data := .fields #[vl, vu, vs] } } := I4.kept (t' := s4.toks) fun b ob q => Heap.get?_push_of_some _ q
  obtain ⟨its, r, ht, hz⟩ := I5.list hx
  have hlen := r.length
  show wpAny (model X.prog X.w) X.A (subscriptTail e (.Slice (some (.UnaryOp .USub (.Constant (.int 2) k2 p4) p5)) none (some (.UnaryOp .USub (.Constant (.int 1) k p1) p2)) p3) (.ref a) (.ref s4.heap.objs.size)) (EP X pins σ Q) X.xe { s4 with heap := s4.heap.push { cls := .type "slice", data := .fields #[vl, vu, vs] } }
  refine tail_any (ops := [.ref a, .ref s4.heap.objs.size]) ht.isList.typeIs (PySem.slot_list_getitem.lookup) ?_ (by with_unfolding_all rfl)
  refine wpAny_getItem_list_slice ht.isList (Heap.IsSliceOf.new _ vl vu vs) pl pu ps (by decide) ?_ (by rw [List.size_toArray]; omega)
  rw [back_pick]
  have rd : Vals xs.dropLast.reverse its.dropLast.reverse := by
    rw [List.dropLast_eq_take, List.dropLast_eq_take, ← hlen]
    exact (r.take (xs.length - 1)).reverse
  refine ⟨.ref _, _, I5.laid (t' := s4.toks) (o := .lst xs.dropLast.reverse) (fun b ob q => Heap.get?_push_of_some _ q) (Nat.le_refl _) ?_, rfl, q _ (I5.hok.fresh (Nat.le_refl _))⟩
  exact ⟨by rw [List.length_reverse, List.length_dropLast]; omega, _, 0, rd, Heap.get?_push_size _ rfl⟩
end Cs

namespace Cs
open PySem PySem.Spec PyProof.Rows L2
/-! ### the groups and the reader as objects -/
def gf (l : Addr) (n : Nat) : List (Str × V) := [("parts", .ref l), ("negations", .int n)]
def rf (t : List Nat) (p : Nat) (gl : Addr) (w : Bool) : List (Str × V) := [("text", .str (SX.S t)), ("place", .int p), ("groups", .ref gl), ("wants", .bl w)]
theorem k1 : ¬ (("parts" : Str) = "negations") := by decide +kernel
theorem k2 : ¬ (("text" : Str) = "place") := by decide +kernel
theorem k3 : ¬ (("text" : Str) = "groups") := by decide +kernel
theorem k4 : ¬ (("text" : Str) = "wants") := by decide +kernel
theorem k5 : ¬ (("place" : Str) = "groups") := by decide +kernel
theorem k6 : ¬ (("place" : Str) = "wants") := by decide +kernel
theorem k7 : ¬ (("groups" : Str) = "wants") := by decide +kernel
theorem k8 : ¬ (("text" : Str) = "parts") := by decide +kernel
theorem gf_0 (l : Addr) : putF "parts" (.ref l) [] = [(("parts" : Str), V.ref l)] := rfl
theorem gf_1 (l : Addr) (n : Nat) : putF "negations" (.int n) [(("parts" : Str), V.ref l)] = gf l n := by
  simp only [putF, if_neg k1]; rfl
theorem gf_put (l : Addr) (n m : Nat) : putF "negations" (.int m) (gf l n) = gf l m := by
  simp only [gf, putF, if_neg k1, if_true]
theorem lk_ne {f g : Str} {v : V} {r : List (Str × V)} (h : ¬ (g = f)) : List.lookup f ((g, v) :: r) = List.lookup f r := by
  rw [List.lookup_cons]
  have : (f == g) = false := by
    cases e : f == g
    · rfl
    · exact absurd (eq_of_beq e).symm h
  rw [this]
theorem lk_eq {f : Str} {v : V} {r : List (Str × V)} : List.lookup f ((f, v) :: r) = some v := by
  rw [List.lookup_cons, beq_self_eq_true]
theorem gf_parts (l : Addr) (n : Nat) : (gf l n).lookup ("parts" : Str) = some (.ref l) := lk_eq
theorem gf_neg (l : Addr) (n : Nat) : (gf l n).lookup ("negations" : Str) = some (.int n) := by
  unfold gf; rw [lk_ne k1, lk_eq]
theorem gf_no (l : Addr) (n : Nat) {m : Str} (h1 : ¬ ("parts" : Str) = m) (h2 : ¬ ("negations" : Str) = m) : (gf l n).lookup m = none := by
  unfold gf; rw [lk_ne h1, lk_ne h2]; rfl
section
variable (t : List Nat) (p q : Nat) (gl : Addr) (w : Bool)
theorem rf_text : (rf t p gl w).lookup ("text" : Str) = some (.str (SX.S t)) := lk_eq
theorem rf_place : (rf t p gl w).lookup ("place" : Str) = some (.int p) := by unfold rf; rw [lk_ne k2, lk_eq]
theorem rf_groups : (rf t p gl w).lookup ("groups" : Str) = some (.ref gl) := by unfold rf; rw [lk_ne k3, lk_ne k5, lk_eq]
theorem rf_wants : (rf t p gl w).lookup ("wants" : Str) = some (.bl w) := by unfold rf; rw [lk_ne k4, lk_ne k6, lk_ne k7, lk_eq]
theorem rf_no {m : Str} (h1 : ¬ ("text" : Str) = m) (h2 : ¬ ("place" : Str) = m) (h3 : ¬ ("groups" : Str) = m) (h4 : ¬ ("wants" : Str) = m) : (rf t p gl w).lookup m = none := by
  unfold rf; rw [lk_ne h1, lk_ne h2, lk_ne h3, lk_ne h4]; rfl
theorem rf_pp : putF "place" (.int q) (rf t p gl w) = rf t q gl w := by
  simp only [rf, putF, if_neg k2, if_true]
theorem rf_pw (v : Bool) : putF "wants" (.bl v) (rf t p gl w) = rf t p gl v := by
  simp only [rf, putF, if_neg k4, if_neg k6, if_neg k7, if_true]
theorem rf_1 : putF "text" (.str (SX.S t)) [] = [(("text" : Str), V.str (SX.S t))] := rfl
theorem rf_2 : putF "place" (.int p) [(("text" : Str), V.str (SX.S t))] = [(("text" : Str), V.str (SX.S t)), ("place", .int p)] := by
  simp only [putF, if_neg k2]
theorem rf_3 : putF "groups" (.ref gl) [(("text" : Str), V.str (SX.S t)), ("place", .int p)] = [(("text" : Str), V.str (SX.S t)), ("place", .int p), ("groups", .ref gl)] := by
  simp only [putF, if_neg k3, if_neg k5]
theorem rf_4 : putF "wants" (.bl w) [(("text" : Str), V.str (SX.S t)), ("place", .int p), ("groups", .ref gl)] = rf t p gl w := by
  simp only [putF, if_neg k4, if_neg k6, if_neg k7]; rfl
end
/-- a group stands at g, its list at l -/
structure GrpAt (K : PySem.W.Frag) (CG : Addr) (H : Hp) (g l : Addr) (ps : List Fm) (n : Nat) : Prop where
  ob : ∃ dx, H g = some (.ins CG dx (gf l n))
  ls : ∃ xs, H l = some (.lst xs) ∧ DtAll K H xs (ps.map Fm.d)
theorem GrpAt.gx {K : PySem.W.Frag} {CG : Addr} {S : List Addr} {H H' : Hp} {g l : Addr} {ps : List Fm} {n : Nat} (x : Gx S H H') (hg : g ∉ S) (hl : l ∉ S) (G : GrpAt K CG H g l ps n) : GrpAt K CG H' g l ps n := by
  obtain ⟨⟨dx, h1⟩, xs, h2, h3⟩ := G
  exact ⟨⟨dx, x.keep _ _ hg h1 fun ps e => nomatch e⟩, xs, x.lst h2 hl, x.dts h3⟩
theorem ins_ne {C D dx dy l gl : Addr} {t : List Nat} {p n : Nat} {w : Bool} : HO.ins C dx (rf t p gl w) ≠ HO.ins D dy (gf l n) := fun e => by
  injection e with _ _ e
  have e2 : (("text" : Str), V.str (SX.S t)) = (("parts" : Str), V.ref l) := (List.cons.inj e).1
  exact k8 (Prod.mk.inj e2).1
/-- a reader stands at r: its list of groups at gl, the groups (the top first) and their lists at as; all of it new since H0 -/
structure RdX (K : PySem.W.Frag) (CG CR : Addr) (H0 H : Hp) (r : Addr) (t : List Nat) (s : RS) (dx gl : Addr) (as : List (Addr × Addr)) : Prop where
  gr : Gr H0 H
  ob : H r = some (.ins CR dx (rf t s.p gl s.wants))
  gs : H gl = some (.lst (as.map fun x => V.ref x.1).reverse)
  al : Paired (fun (a : Addr × Addr) (g : Grp) => GrpAt K CG H a.1 a.2 g.1 g.2) as s.gs
  n1 : (as.map (·.1)).Nodup
  n2 : (gl :: as.map (·.2)).Nodup
  r0 : H0 r = none
  g0 : H0 gl = none
  a0 : ∀ a ∈ as, H0 a.1 = none ∧ H0 a.2 = none
def RdAt (K : PySem.W.Frag) (CG CR : Addr) (H0 H : Hp) (r : Addr) (t : List Nat) (s : RS) : Prop := ∃ dx gl as, RdX K CG CR H0 H r t s dx gl as
theorem paired_mem {α β : Type} {F : α → β → Prop} : ∀ {l : List α} {m : List β} {a : α}, Paired F l m → a ∈ l → ∃ b ∈ m, F a b
  | _, _, _, .nil, h => nomatch h
  | _, _, a, .cons r q, h => by
    rcases List.mem_cons.mp h with rfl | h
    · exact ⟨_, List.mem_cons_self, r⟩
    · obtain ⟨b, m, f⟩ := paired_mem q h
      exact ⟨b, List.mem_cons_of_mem _ m, f⟩
theorem paired_gx {K : PySem.W.Frag} {CG : Addr} {S : List Addr} {H H' : Hp} (x : Gx S H H') : ∀ {as : List (Addr × Addr)} {gs : List Grp}, Paired (fun (a : Addr × Addr) (g : Grp) => GrpAt K CG H a.1 a.2 g.1 g.2) as gs →
    (∀ a ∈ as, a.1 ∉ S ∧ a.2 ∉ S) → Paired (fun (a : Addr × Addr) (g : Grp) => GrpAt K CG H' a.1 a.2 g.1 g.2) as gs
  | _, _, .nil, _ => .nil
  | _, _, .cons r q, h => .cons (r.gx x (h _ List.mem_cons_self).1 (h _ List.mem_cons_self).2) (paired_gx x q fun a m => h a (List.mem_cons_of_mem _ m))
section
variable {K : PySem.W.Frag} {CG CR : Addr} {H0 H H' : Hp} {r : Addr} {t : List Nat} {s : RS} {dx gl : Addr} {as : List (Addr × Addr)}
theorem RdX.ne_r (R : RdX K CG CR H0 H r t s dx gl as) : r ≠ gl ∧ ∀ a ∈ as, r ≠ a.1 ∧ r ≠ a.2 ∧ gl ≠ a.1 ∧ gl ≠ a.2 := by
  refine ⟨ne_of R.ob R.gs (fun e => nomatch e), fun a ha => ?_⟩
  obtain ⟨g, _, ⟨dy, h1⟩, xs, h2, _⟩ := paired_mem R.al ha
  refine ⟨ne_of R.ob h1 ins_ne, ne_of R.ob h2 (fun e => nomatch e), ne_of R.gs h1 (fun e => nomatch e), fun e => ?_⟩
  have := (List.nodup_cons.mp R.n2).1
  exact this (by rw [e]; exact List.mem_map.mpr ⟨a, ha, rfl⟩)
/-- place and wants are set -/
theorem RdX.setR (R : RdX K CG CR H0 H r t s dx gl as) (p : Nat) (w : Bool) : RdX K CG CR H0 (upd H r (.ins CR dx (rf t p gl w))) r t ⟨p, s.gs, w⟩ dx gl as := by
  obtain ⟨e1, e2⟩ := R.ne_r
  have g : Gx [r] H (upd H r (.ins CR dx (rf t p gl w))) := Gx.set R.ob rfl
  exact ⟨R.gr.drop g (fun a m => by rw [List.mem_singleton.mp m]; exact .inr R.r0), upd_same, by rw [upd_ne e1.symm]; exact R.gs,
    paired_gx g R.al fun a ha => ⟨by simp [(e2 a ha).1.symm], by simp [(e2 a ha).2.1.symm]⟩, R.n1, R.n2, R.r0, R.g0, R.a0⟩
/-- the heap grows -/
theorem RdX.grow (R : RdX K CG CR H0 H r t s dx gl as) (g : Gr H H') : RdX K CG CR H0 H' r t s dx gl as :=
  ⟨R.gr.trans g, gr_some g R.ob (fun ps e => nomatch e), g.lst R.gs (fun m => nomatch m), paired_gx g R.al (fun a _ => ⟨(fun m => nomatch m), (fun m => nomatch m)⟩), R.n1, R.n2, R.r0, R.g0, R.a0⟩
/-- the group on top is another one -/
theorem RdX.setTop {a : Addr × Addr} {g g' : Grp} {gs : List Grp} {p : Nat} {w : Bool} (R : RdX K CG CR H0 H r t ⟨p, g :: gs, w⟩ dx gl (a :: as)) (x : Gx [a.1, a.2] H H') (G : GrpAt K CG H' a.1 a.2 g'.1 g'.2) :
    RdX K CG CR H0 H' r t ⟨p, g' :: gs, w⟩ dx gl (a :: as) := by
  obtain ⟨e1, e2⟩ := R.ne_r
  obtain ⟨f1, f2, f3, f4⟩ := e2 a List.mem_cons_self
  have n1 := List.nodup_cons.mp (show (a.1 :: as.map (·.1)).Nodup from R.n1)
  have n2 := List.nodup_cons.mp (List.nodup_cons.mp (show (gl :: a.2 :: as.map (·.2)).Nodup from R.n2)).2
  have hal := R.al
  cases hal with
  | cons q0 q1 =>
    refine ⟨R.gr.drop x (fun b m => ?_), x.keep _ _ (by simp [f1, f2]) R.ob (fun ps e => nomatch e), x.lst R.gs (by simp [f3, f4]), .cons G (paired_gx x q1 fun b hb => ?_), R.n1, R.n2, R.r0, R.g0, R.a0⟩
    · rcases List.mem_cons.mp m with rfl | m
      · exact .inr (R.a0 a List.mem_cons_self).1
      · rw [List.mem_singleton.mp m]; exact .inr (R.a0 a List.mem_cons_self).2
    · obtain ⟨g1, _, ⟨dy, h1⟩, ys, h2, _⟩ := paired_mem q1 hb
      obtain ⟨⟨dz, h3⟩, zs, h4, _⟩ := q0
      have b1 : b.1 ≠ a.1 := fun e => n1.1 (by rw [← e]; exact List.mem_map.mpr ⟨b, hb, rfl⟩)
      have b2 : b.2 ≠ a.2 := fun e => n2.1 (by rw [← e]; exact List.mem_map.mpr ⟨b, hb, rfl⟩)
      have b3 : b.1 ≠ a.2 := ne_of h1 h4 (fun e => nomatch e)
      have b4 : b.2 ≠ a.1 := ne_of h2 h3 (fun e => nomatch e)
      exact ⟨by simp [b1, b3], by simp [b2, b4]⟩
/-- a new group on top -/
theorem RdX.push {g l : Addr} (R : RdX K CG CR H0 H r t s dx gl as) (G : GrpAt K CG H g l [] 0) (x0 : H0 g = none) (x1 : H0 l = none) (x2 : ∀ a ∈ as, g ≠ a.1 ∧ l ≠ a.2) (x3 : gl ≠ l) :
    RdX K CG CR H0 (upd H gl (.lst ((as.map fun x => V.ref x.1).reverse ++ [.ref g]))) r t ⟨s.p, ([], 0) :: s.gs, s.wants⟩ dx gl ((g, l) :: as) := by
  obtain ⟨e1, e2⟩ := R.ne_r
  have x : Gx [gl] H (upd H gl (.lst ((as.map fun x => V.ref x.1).reverse ++ [.ref g]))) := Gx.set R.gs rfl
  obtain ⟨⟨dy, h1⟩, ys, h2, _⟩ := id G
  have ggl : g ≠ gl := ne_of h1 R.gs (fun e => nomatch e)
  refine ⟨R.gr.drop x (fun a m => by rw [List.mem_singleton.mp m]; exact .inr R.g0), by rw [upd_ne e1]; exact R.ob, ?_, .cons (G.gx x (by simp [ggl]) (by simp [x3.symm])) (paired_gx x R.al fun a ha => ⟨by simp [(e2 a ha).2.2.1.symm], by simp [(e2 a ha).2.2.2.symm]⟩), ?_, ?_, R.r0, R.g0, ?_⟩
  · rw [upd_same, List.map_cons, List.reverse_cons]
  · refine List.nodup_cons.mpr ⟨fun m => ?_, R.n1⟩
    obtain ⟨a, ha, e⟩ := List.mem_map.mp m
    exact (x2 a ha).1 e.symm
  · have n := List.nodup_cons.mp R.n2
    refine List.nodup_cons.mpr ⟨fun m => ?_, List.nodup_cons.mpr ⟨fun m => ?_, n.2⟩⟩
    · rcases List.mem_cons.mp m with e | m
      · exact x3 e
      · exact n.1 m
    · obtain ⟨a, ha, e⟩ := List.mem_map.mp m
      exact (x2 a ha).2 e.symm
  · intro a ha
    rcases List.mem_cons.mp ha with rfl | ha
    · exact ⟨x0, x1⟩
    · exact R.a0 a ha
/-- the top is taken -/
theorem RdX.pop {a : Addr × Addr} {g : Grp} {gs : List Grp} {p : Nat} {w : Bool} (R : RdX K CG CR H0 H r t ⟨p, g :: gs, w⟩ dx gl (a :: as)) :
    RdX K CG CR H0 (upd H gl (.lst (((a :: as).map fun x => V.ref x.1).reverse).dropLast)) r t ⟨p, gs, w⟩ dx gl as ∧ GrpAt K CG (upd H gl (.lst (((a :: as).map fun x => V.ref x.1).reverse).dropLast)) a.1 a.2 g.1 g.2 := by
  obtain ⟨e1, e2⟩ := R.ne_r
  have x : Gx [gl] H (upd H gl (.lst (((a :: as).map fun x => V.ref x.1).reverse).dropLast)) := Gx.set R.gs rfl
  have hal := R.al
  cases hal with
  | cons q0 q1 =>
    obtain ⟨f1, f2, f3, f4⟩ := e2 a List.mem_cons_self
    have n := List.nodup_cons.mp (show (gl :: a.2 :: as.map (·.2)).Nodup from R.n2)
    refine ⟨⟨R.gr.drop x (fun a m => by rw [List.mem_singleton.mp m]; exact .inr R.g0), by rw [upd_ne e1]; exact R.ob, ?_, paired_gx x q1 fun b hb => ?_, (List.nodup_cons.mp (show (a.1 :: as.map (·.1)).Nodup from R.n1)).2,
      List.nodup_cons.mpr ⟨fun m => n.1 (List.mem_cons_of_mem _ m), (List.nodup_cons.mp n.2).2⟩, R.r0, R.g0, fun b hb => R.a0 b (List.mem_cons_of_mem _ hb)⟩, q0.gx x (by simp [f3.symm]) (by simp [f4.symm])⟩
    · rw [upd_same, List.map_cons, List.reverse_cons, List.dropLast_concat]
    · have := e2 b (List.mem_cons_of_mem _ hb)
      exact ⟨by simp [this.2.2.1.symm], by simp [this.2.2.2.symm]⟩
end
theorem negs_succ : ∀ (n : Nat) (f : Fm), negs (n + 1) f = .ng (negs n f)
  | 0, _ => rfl
  | n + 1, f => negs_succ n (.ng f)
/-- a new object and its own dict -/
theorem gr_made {H : Hp} {x dx C : Addr} (nx : H x = none) (nd : H dx = none) (ne : dx ≠ x) : Gr H (upd (upd H dx (.own x)) x (.ins C dx [])) :=
  (Gx.new nd).trans (Gx.new (by rw [upd_ne ne.symm]; exact nx))
section
variable {K : PySem.W.Frag} {CG CR : Addr} {H0 H H' : Hp} {r : Addr} {t : List Nat} {s : RS} {dx gl : Addr} {as : List (Addr × Addr)}
theorem RdX.inc (R : RdX K CG CR H0 H r t s dx gl as) (k : Nat) {z : Int} (hz : z = ((s.p + k : Nat) : Int)) : RdX K CG CR H0 (upd H r (.ins CR dx (putF "place" (.int z) (rf t s.p gl s.wants)))) r t ⟨s.p + k, s.gs, s.wants⟩ dx gl as := by
  subst hz; rw [rf_pp]; exact R.setR _ _
theorem RdX.setW (R : RdX K CG CR H0 H r t s dx gl as) (w : Bool) : RdX K CG CR H0 (upd H r (.ins CR dx (putF "wants" (.bl w) (rf t s.p gl s.wants)))) r t ⟨s.p, s.gs, w⟩ dx gl as := by
  rw [rf_pw]; exact R.setR _ _
end
theorem top_at {a : Addr × Addr} {as : List (Addr × Addr)} : atI ((a :: as).map fun x => V.ref x.1).reverse (-1) = some (.ref a.1) := by
  rw [List.map_cons, List.reverse_cons]; exact atI_last _ _
theorem bot_at {a : Addr × Addr} : atI ([a].map fun x => V.ref x.1).reverse 0 = some (.ref a.1) := rfl
/-! ### signs -/
theorem one_eq (c k : Nat) : decide (V.str ⟨#[c]⟩ = V.str (SX.S [k])) = decide (c = k) := by
  by_cases e : c = k
  · subst e; rw [decide_eq_true rfl, decide_eq_true rfl]
  · rw [decide_eq_false e, decide_eq_false]
    intro h
    injection h with h
    have : [c] = [k] := SX.S_inj (a := [c]) (b := [k]) h
    exact e (List.cons.inj this).1
theorem z_sp : (" " : Str) = SX.S [32] := by decide +kernel
theorem z_mi : ("-" : Str) = SX.S [45] := by decide +kernel
theorem z_gt : (">" : Str) = SX.S [62] := by decide +kernel
theorem z_tl : ("~" : Str) = SX.S [126] := by decide +kernel
theorem z_pl : ("(" : Str) = SX.S [40] := by decide +kernel
theorem z_pr : (")" : Str) = SX.S [41] := by decide +kernel
theorem in_small (c : Nat) : decide (c ∈ ("abcdefghijklmnopqrstuvwxyz" : Str).cps.toList) = small c := by
  have h1 : ∀ j ∈ List.range 26, 97 + j ∈ ("abcdefghijklmnopqrstuvwxyz" : Str).cps.toList := by decide +kernel
  have h2 : ∀ c ∈ ("abcdefghijklmnopqrstuvwxyz" : Str).cps.toList, small c = true := by decide +kernel
  rw [Bool.eq_iff_iff, decide_eq_true_eq]
  refine ⟨h2 c, fun h => ?_⟩
  unfold small at h
  rw [Bool.and_eq_true, decide_eq_true_eq, decide_eq_true_eq] at h
  have := h1 (c - 97) (List.mem_range.mpr (by omega))
  rwa [show 97 + (c - 97) = c by omega] at this
theorem in_digit (c : Nat) : decide (c ∈ ("0123456789" : Str).cps.toList) = digit c := by
  have h1 : ∀ j ∈ List.range 10, 48 + j ∈ ("0123456789" : Str).cps.toList := by decide +kernel
  have h2 : ∀ c ∈ ("0123456789" : Str).cps.toList, digit c = true := by decide +kernel
  rw [Bool.eq_iff_iff, decide_eq_true_eq]
  refine ⟨h2 c, fun h => ?_⟩
  unfold digit at h
  rw [Bool.and_eq_true, decide_eq_true_eq, decide_eq_true_eq] at h
  have := h1 (c - 48) (List.mem_range.mpr (by omega))
  rwa [show 48 + (c - 48) = c by omega] at this
theorem cut_one (t : List Nat) (p : Nat) : cutS (SX.S t) (some ((p : Int) + 1)) (some ((p : Int) + 2)) = SX.S (match t[p + 1]? with | some d => [d] | none => []) := by
  have e1 : ((p : Int) + 1) = ((p + 1 : Nat) : Int) := rfl
  have e2 : ((p : Int) + 2) = ((p + 2 : Nat) : Int) := rfl
  unfold cutS
  rw [e1, e2, HT.sIx_nat, HT.sIx_nat, SX.S_len]
  show SX.S _ = SX.S _
  refine congrArg SX.S ?_
  cases h : t[p + 1]? with
  | none =>
    have hl : t.length ≤ p + 1 := List.getElem?_eq_none_iff.mp h
    show List.take _ (t.drop (min (p + 1) t.length)) = []
    rw [List.drop_eq_nil_of_le (by omega)]; simp
  | some d =>
    obtain ⟨hl, e⟩ := List.getElem?_eq_some_iff.mp h
    show List.take _ (t.drop (min (p + 1) t.length)) = [d]
    rw [show min (p + 1) t.length = p + 1 by omega, show min (p + 2) t.length - (p + 1) = 1 by omega, List.drop_eq_getElem_cons hl, e]; rfl
/-- the bounds and the shape of what is read -/
structure Bd (s : RS) : Prop where
  n : ∀ g ∈ s.gs, g.1.length ≤ s.p ∧ g.2 ≤ s.p
  m : s.gs.length ≤ s.p + 1
  w : s.wants = false → ∃ g gs, s.gs = g :: gs ∧ g.1 ≠ []
  ne : s.gs ≠ []
theorem Bd.add {f : Fm} {g : Grp} {gs : List Grp} {p q : Nat} (h : ∀ x ∈ g :: gs, x.1.length ≤ p ∧ x.2 ≤ p) (hm : (g :: gs).length ≤ p + 1) (l : p < q) (w : Bool) : Bd ⟨q, addG f (g :: gs), w⟩ := by
  obtain ⟨ps, n⟩ := g
  refine ⟨fun x hx => ?_, ?_, fun _ => ⟨_, _, rfl, by simp⟩, List.cons_ne_nil _ _⟩
  · rcases List.mem_cons.mp hx with rfl | hx
    · have := (h _ List.mem_cons_self).1
      show (ps ++ [negs n f]).length ≤ q ∧ 0 ≤ q
      rw [List.length_append, List.length_singleton]
      have h2 : ps.length ≤ p := this
      omega
    · have := h x (List.mem_cons_of_mem _ hx)
      show x.1.length ≤ q ∧ x.2 ≤ q
      omega
  · show (gs.length + 1) ≤ q + 1
    have : gs.length + 1 ≤ p + 1 := hm
    omega
theorem nameAt_pos (t : List Nat) (p c : Nat) : 1 ≤ (nameAt t p c).length ∧ (nameAt t p c).length ≤ 2 := by
  unfold nameAt
  split
  · split <;> simp
  · simp
theorem bd_step {t : List Nat} {s s' : RS} (B : Bd s) (h : stepS t s = some s') : Bd s' ∧ s.p < s'.p := by
  unfold stepS at h
  split at h
  · cases h
  · rename_i c hc
    split at h
    · cases h
      exact ⟨⟨fun g hg => by have := B.n g hg; exact ⟨Nat.le_succ_of_le this.1, Nat.le_succ_of_le this.2⟩, Nat.le_succ_of_le B.m, B.w, B.ne⟩, Nat.lt_succ_self _⟩
    · split at h
      · rename_i hw
        unfold startS at h
        split at h
        · split at h
          · rename_i ps n r hg
            cases h
            refine ⟨⟨fun g hg2 => ?_, ?_, fun z => (by rw [hw] at z; cases z), List.cons_ne_nil _ _⟩, Nat.lt_succ_self _⟩
            · rcases List.mem_cons.mp hg2 with rfl | hg2
              · have := B.n (ps, n) (by rw [hg]; exact List.mem_cons_self)
                exact ⟨Nat.le_succ_of_le this.1, Nat.succ_le_succ this.2⟩
              · have := B.n g (by rw [hg]; exact List.mem_cons_of_mem _ hg2)
                exact ⟨Nat.le_succ_of_le this.1, Nat.le_succ_of_le this.2⟩
            · have := B.m
              rw [hg] at this
              exact Nat.le_succ_of_le this
          · cases h
        · split at h
          · cases h
            refine ⟨⟨fun g hg2 => ?_, Nat.succ_le_succ B.m, fun z => (by rw [hw] at z; cases z), List.cons_ne_nil _ _⟩, Nat.lt_succ_self _⟩
            rcases List.mem_cons.mp hg2 with rfl | hg2
            · exact ⟨Nat.zero_le _, Nat.zero_le _⟩
            · have := B.n g hg2
              exact ⟨Nat.le_succ_of_le this.1, Nat.le_succ_of_le this.2⟩
          · split at h
            · cases h
              have hp := nameAt_pos t s.p c
              have lt : s.p < s.p + (nameAt t s.p c).length := by omega
              cases hg : s.gs with
              | nil =>
                exact absurd hg B.ne
              | cons g gs =>
                have b := B.n; have m := B.m
                rw [hg] at b m
                exact ⟨Bd.add b m lt _, lt⟩
            · cases h
      · rename_i hw
        unfold goS at h
        split at h
        · split at h
          · cases h
            exact ⟨⟨fun g hg => by have := B.n g hg; exact ⟨by show g.1.length ≤ s.p + 2; omega, by show g.2 ≤ s.p + 2; omega⟩, by show s.gs.length ≤ s.p + 2 + 1; have := B.m; omega, fun z => (by cases z), B.ne⟩, by show s.p < s.p + 2; omega⟩
          · cases h
        · split at h
          · split at h
            · rename_i g g2 r hg
              cases h
              have b := B.n; have m := B.m
              rw [hg] at b m
              exact ⟨Bd.add (fun x hx => b x (List.mem_cons_of_mem _ hx)) (by have : (g2 :: r).length + 1 ≤ s.p + 1 := m; omega) (Nat.lt_succ_self _) _, Nat.lt_succ_self _⟩
            · cases h
          · cases h
end Cs

namespace Cs
open PySem PySem.Spec PyProof.Rows L2
/-! ### looser texts: plain law -/
abbrev bl (n : Nat) : List Nat := List.replicate n 32
/-- a text that is one part: read behind k negations it is one more part of the group -/
def GT (f : Fm) (T : List Nat) : Prop := ∀ (pre rest : List Nat), Nxt rest → ∀ (ps : List Fm) (k : Nat) (gs : List Grp),
  Run (pre ++ (T ++ rest)) ⟨pre.length, (ps, k) :: gs, true⟩ ⟨pre.length + T.length, (ps ++ [negs k f], 0) :: gs, false⟩
/-- a text of a formula -/
def TT (f : Fm) (T : List Nat) : Prop := ∃ L : List Fm, L ≠ [] ∧ grpF L = f ∧ ∀ (pre rest : List Nat), Nxt rest → ∀ (ps : List Fm) (gs : List Grp),
  Run (pre ++ (T ++ rest)) ⟨pre.length, (ps, 0) :: gs, true⟩ ⟨pre.length + T.length, (ps ++ L, 0) :: gs, false⟩
theorem GT.tt {f : Fm} {T : List Nat} (h : GT f T) : TT f T := ⟨[f], List.cons_ne_nil _ _, rfl, fun pre rest hr ps gs => h pre rest hr ps 0 gs⟩
theorem run_bl (n : Nat) : ∀ (pre rest : List Nat) (gs : List Grp) (w : Bool), Run (pre ++ (bl n ++ rest)) ⟨pre.length, gs, w⟩ ⟨pre.length + n, gs, w⟩ := by
  induction n with
  | zero => intro pre rest gs w; exact .refl _
  | succ n ih =>
    intro pre rest gs w
    have e : pre ++ (bl (n + 1) ++ rest) = pre ++ 32 :: (bl n ++ rest) := by rw [show bl (n + 1) = 32 :: bl n from List.replicate_succ]; rfl
    rw [e]
    refine .more step_sp ?_
    have := ih (pre ++ [32]) rest gs w
    rw [len1] at this
    rw [mv1, show pre.length + (n + 1) = pre.length + 1 + n by omega]
    exact this
theorem nxt_bl {n : Nat} {r : List Nat} (h : Nxt r) : Nxt (bl n ++ r) := by
  cases n with
  | zero => exact h
  | succ n => rw [show bl (n + 1) = 32 :: bl n from List.replicate_succ]; exact nxt_sp rfl
theorem bl_len (n : Nat) : (bl n).length = n := List.length_replicate
theorem gt_lt {n : Str} (h : Nm n) : GT (.lt n) n.cps.toList := fun pre rest hr ps k gs => run_letter h hr ps k gs
/-- in parentheses -/
theorem gt_par {f : Fm} {T : List Nat} (h : TT f T) (n m : Nat) : GT f (40 :: (bl n ++ (T ++ (bl m ++ [41])))) := by
  obtain ⟨L, hL, hf, h⟩ := h
  intro pre rest hr ps k gs
  have e : pre ++ (40 :: (bl n ++ (T ++ (bl m ++ [41]))) ++ rest) = (pre ++ [40]) ++ (bl n ++ (T ++ (bl m ++ 41 :: rest))) := by
    simp only [List.append_assoc, List.cons_append, List.nil_append]
  rw [e]
  refine .more (s1 := ⟨(pre ++ [40]).length, ([], 0) :: (ps, k) :: gs, true⟩) (by rw [← mv1, len1]; exact step_lp) ?_
  refine (run_bl n (pre ++ [40]) _ _ _).trans ?_
  have e2 : (pre ++ [40]) ++ (bl n ++ (T ++ (bl m ++ 41 :: rest))) = ((pre ++ [40]) ++ bl n) ++ (T ++ (bl m ++ 41 :: rest)) := by simp only [List.append_assoc]
  have l2 : (pre ++ [40]).length + n = ((pre ++ [40]) ++ bl n).length := by rw [List.length_append (as := pre ++ [40]), bl_len]
  rw [e2, l2]
  refine (h _ _ (nxt_bl (nxt_sp rfl)) [] _).trans ?_
  have e3 : ((pre ++ [40]) ++ bl n) ++ (T ++ (bl m ++ 41 :: rest)) = (((pre ++ [40]) ++ bl n) ++ T) ++ (bl m ++ 41 :: rest) := by simp only [List.append_assoc]
  have l3 : ((pre ++ [40]) ++ bl n).length + T.length = (((pre ++ [40]) ++ bl n) ++ T).length := by rw [List.length_append (as := (pre ++ [40]) ++ bl n)]
  rw [e3, l3]
  refine (run_bl m _ _ _ _).trans ?_
  have e4 : (((pre ++ [40]) ++ bl n) ++ T) ++ (bl m ++ 41 :: rest) = ((((pre ++ [40]) ++ bl n) ++ T) ++ bl m) ++ 41 :: rest := by simp only [List.append_assoc]
  have l4 : (((pre ++ [40]) ++ bl n) ++ T).length + m = ((((pre ++ [40]) ++ bl n) ++ T) ++ bl m).length := by rw [List.length_append (as := ((pre ++ [40]) ++ bl n) ++ T), bl_len]
  rw [e4, l4]
  refine .more step_rp ?_
  have l5 : ((((pre ++ [40]) ++ bl n) ++ T) ++ bl m).length + 1 = pre.length + (40 :: (bl n ++ (T ++ (bl m ++ [41])))).length := by
    simp only [List.length_append, List.length_cons, List.length_nil]; omega
  rw [l5]
  show Run _ ⟨_, addG (grpF ([] ++ L)) ((ps, k) :: gs), false⟩ _
  rw [List.nil_append, hf]
  exact .refl _
theorem gt_ng {p : Fm} {T : List Nat} (h : GT p T) (n : Nat) : GT (.ng p) (126 :: (bl n ++ T)) := by
  intro pre rest hr ps k gs
  have e : pre ++ (126 :: (bl n ++ T) ++ rest) = (pre ++ [126]) ++ (bl n ++ (T ++ rest)) := by simp only [List.append_assoc, List.cons_append, List.nil_append]
  rw [e]
  refine .more (s1 := ⟨(pre ++ [126]).length, (ps, k + 1) :: gs, true⟩) (by rw [← mv1, len1]; exact step_ng) ?_
  refine (run_bl n (pre ++ [126]) _ _ _).trans ?_
  have e2 : (pre ++ [126]) ++ (bl n ++ (T ++ rest)) = ((pre ++ [126]) ++ bl n) ++ (T ++ rest) := by simp only [List.append_assoc]
  have l2 : (pre ++ [126]).length + n = ((pre ++ [126]) ++ bl n).length := by rw [List.length_append (as := pre ++ [126]), bl_len]
  rw [e2, l2]
  have := h ((pre ++ [126]) ++ bl n) rest hr ps (k + 1) gs
  have l3 : ((pre ++ [126]) ++ bl n).length + T.length = pre.length + (126 :: (bl n ++ T)).length := by simp only [List.length_append, List.length_cons, List.length_nil]; omega
  rw [l3] at this
  exact this
theorem tt_im {p q : Fm} {T U : List Nat} (h : GT p T) (h2 : TT q U) (n m : Nat) : TT (.im p q) (T ++ (bl n ++ (45 :: 62 :: (bl m ++ U)))) := by
  obtain ⟨L, hL, hq, h2⟩ := h2
  refine ⟨p :: L, List.cons_ne_nil _ _, ?_, fun pre rest hr ps gs => ?_⟩
  · rw [← hq]
    cases L with
    | nil => exact absurd rfl hL
    | cons x r => rfl
  have e : pre ++ (T ++ (bl n ++ (45 :: 62 :: (bl m ++ U))) ++ rest) = pre ++ (T ++ (bl n ++ (45 :: 62 :: (bl m ++ (U ++ rest))))) := by simp only [List.append_assoc, List.cons_append]
  rw [e]
  refine (h pre _ (nxt_bl (nxt_sp rfl)) ps 0 gs).trans ?_
  have e2 : pre ++ (T ++ (bl n ++ (45 :: 62 :: (bl m ++ (U ++ rest))))) = (pre ++ T) ++ (bl n ++ (45 :: 62 :: (bl m ++ (U ++ rest)))) := by simp only [List.append_assoc]
  rw [e2, show pre.length + T.length = (pre ++ T).length by rw [List.length_append]]
  refine (run_bl n _ _ _ _).trans ?_
  have e3 : (pre ++ T) ++ (bl n ++ (45 :: 62 :: (bl m ++ (U ++ rest)))) = ((pre ++ T) ++ bl n) ++ 45 :: 62 :: (bl m ++ (U ++ rest)) := by simp only [List.append_assoc]
  have l3 : (pre ++ T).length + n = ((pre ++ T) ++ bl n).length := by rw [List.length_append (as := pre ++ T), bl_len]
  rw [e3, l3]
  refine .more step_ar ?_
  have e4 : ((pre ++ T) ++ bl n) ++ 45 :: 62 :: (bl m ++ (U ++ rest)) = (((pre ++ T) ++ bl n) ++ [45, 62]) ++ (bl m ++ (U ++ rest)) := by simp only [List.append_assoc]; rfl
  have l4 : ((pre ++ T) ++ bl n).length + 2 = (((pre ++ T) ++ bl n) ++ [45, 62]).length := by rw [List.length_append (as := (pre ++ T) ++ bl n)]; rfl
  rw [e4, l4]
  refine (run_bl m _ _ _ _).trans ?_
  have e5 : (((pre ++ T) ++ bl n) ++ [45, 62]) ++ (bl m ++ (U ++ rest)) = ((((pre ++ T) ++ bl n) ++ [45, 62]) ++ bl m) ++ (U ++ rest) := by simp only [List.append_assoc]
  have l5 : (((pre ++ T) ++ bl n) ++ [45, 62]).length + m = ((((pre ++ T) ++ bl n) ++ [45, 62]) ++ bl m).length := by rw [List.length_append (as := ((pre ++ T) ++ bl n) ++ [45, 62]), bl_len]
  rw [e5, l5]
  have := h2 ((((pre ++ T) ++ bl n) ++ [45, 62]) ++ bl m) rest hr (ps ++ [p]) gs
  have l6 : ((((pre ++ T) ++ bl n) ++ [45, 62]) ++ bl m).length + U.length = pre.length + (T ++ (bl n ++ (45 :: 62 :: (bl m ++ U)))).length := by simp only [List.length_append, List.length_cons, List.length_nil]; omega
  rw [l6, List.append_assoc ps] at this
  exact this
/-- the whole text -/
theorem read_tt {f : Fm} {T : List Nat} (h : TT f T) (n m : Nat) : ∃ g : Grp, grpF g.1 = f ∧ Run (bl n ++ (T ++ bl m)) ⟨0, [([], 0)], true⟩ ⟨(bl n ++ (T ++ bl m)).length, [g], false⟩ := by
  obtain ⟨L, hL, hf, h⟩ := h
  refine ⟨(L, 0), hf, ?_⟩
  have a := run_bl n [] (T ++ bl m) [([], 0)] true
  rw [List.nil_append] at a
  refine a.trans ?_
  have b := h (bl n) (bl m) (by have := nxt_bl (n := m) Nxt.nil; rwa [List.append_nil] at this) [] []
  rw [bl_len] at b
  rw [show ([] : List Nat).length + n = n by simp]
  refine b.trans ?_
  have c := run_bl m (bl n ++ T) [] [([] ++ L, 0)] false
  rw [List.append_nil, List.append_assoc, List.length_append, bl_len] at c
  rw [show (bl n ++ (T ++ bl m)).length = n + T.length + m by simp only [List.length_append, bl_len]; omega]
  exact c
end Cs
set_option Elab.async false
set_option linter.all false
set_option maxRecDepth 100000
set_option maxHeartbeats 2000000
namespace Cs
open PySem PySem.Spec PyProof.Rows L2
def top (i : Nat) : Stmt := PySem.Challenge.pw_conceptscript_k01_other_texts_of_a_formu.main.body.getD i (.Pass ⟨0, 0, 0, 0⟩)
abbrev s_TextFault___init__ : Stmt := inClass (top 2) 0
abbrev s_Group___init__ : Stmt := inClass (top 6) 0
abbrev s_Group_add : Stmt := inClass (top 6) 1
abbrev s_Group_formula : Stmt := inClass (top 6) 2
abbrev s_Reader___init__ : Stmt := inClass (top 7) 0
abbrev s_Reader_unexpected : Stmt := inClass (top 7) 1
abbrev s_Reader_start : Stmt := inClass (top 7) 2
abbrev s_Reader_go_on : Stmt := inClass (top 7) 3
abbrev s_Reader_read : Stmt := inClass (top 7) 4
abbrev s_read : Stmt := top 8
abbrev s_Lcell : Stmt := top 10
abbrev s_Ldigits : Stmt := top 11
abbrev s_Lbox : Stmt := top 12
abbrev s_Ldraw : Stmt := top 13
abbrev s_Lput : Stmt := top 14
abbrev s_Lany : Stmt := top 15
abbrev s_Llettered : Stmt := top 16
abbrev s_Lblank : Stmt := top 17
abbrev s_Lloose_part : Stmt := top 18
abbrev s_Lloose : Stmt := top 19
abbrev s_Lsame : Stmt := top 20
abbrev s_law : Stmt := top 21
structure Bn (mg : Str → Option Value) : Prop where
  bool : mg "bool" = none
  int : mg "int" = none
  isinstance : mg "isinstance" = none
  len : mg "len" = none
  range : mg "range" = none
  str : mg "str" = none
  tuple : mg "tuple" = none
  g_SMALL : ∃ u, mg "SMALL" = some u ∧ RelV (.str "abcdefghijklmnopqrstuvwxyz") u
  g_DIGITS : ∃ u, mg "DIGITS" = some u ∧ RelV (.str "0123456789") u
section
variable {P : Program} {w : World} {K : PySem.W.Frag} {mg : Str → Option Value} {base : Heap}
abbrev N_Lcell : List Str := ["_law_script", "_law_k"]
theorem sc_Lcell : FnScope N_Lcell ["_law_script", "_law_k"] (defScope s_Lcell) := ⟨rfl, rfl, rfl, by decide +kernel, rfl, by decide +kernel, by decide +kernel⟩
def sp_Lcell (K : PySem.W.Frag) : Sp := fun vs H Q _ => ∃ (a : Addr) (ns : List Int) (k : Int), vs = [.ref a, .int k] ∧ SqL K H a (ns.map V.int) ∧ 0 ≤ k ∧ ∀ i : Int, Q (.int i) H
theorem ok_Lcell (B : Bn mg) (D : Df K mg "_law_cell" s_Lcell ["_law_script", "_law_k"]) : Cl CX0 P w K mg base 1 "_law_cell" (sp_Lcell K) := by
  refine D.ok sc_Lcell (fun vs H Q E h => ?_) (fun f cdv A outer s H vs Q E hr h => ?_)
  · obtain ⟨a, ns, k, rfl, _⟩ := h
    rfl
  obtain ⟨a, ns, k, rfl, hS, h0, q⟩ := h
  refine ⟨_, pss_cons (ps_if (pt_cmpR op_lt (pv 1) (pe_callB call_len_seq (by rfl) B.len PySem.boot_len (pa_cons (pv 0) pa_nil)) (nomark _)) (pss_one (ps_ret (pe_ix ix_list (pv 0) (pv 1) (fun _ _ => rfl)))) pss_nil) (pss_one (ps_ret pe_int)), ?_⟩
  refine ⟨_, rfl, _, rfl, a, _, rfl, .inl hS, _, _, rfl, rfl, _, rfl, ?_⟩
  refine ite2 (fun c => ?_) (fun c => ?_)
  · have c' := of_decide_eq_true c
    rw [List.length_map] at c'
    obtain ⟨j, rfl⟩ : ∃ j : Nat, k = (j : Int) := ⟨k.toNat, by omega⟩
    have hj : j < ns.length := by omega
    exact ⟨_, rfl, _, rfl, a, _, _, _, rfl, rfl, hS, atI_nat (by rw [List.getElem?_map, List.getElem?_eq_getElem hj]; rfl), q _⟩
  · exact q 0
abbrev N_Ldraw : List Str := ["_law_box_here", "_law_many", "_law_at"]
theorem sc_Ldraw : FnScope N_Ldraw ["_law_box_here", "_law_many"] (defScope s_Ldraw) := ⟨rfl, rfl, rfl, by decide +kernel, rfl, by decide +kernel, by decide +kernel⟩
def sp_Ldraw : Sp := fun vs H Q _ => ∃ (b : Addr) (m : Int), vs = [.ref b, .int m] ∧ 0 < m ∧ Bx H b ∧ ∀ (r : Int) (H' : Hp), 0 ≤ r → r < m → Gx [b] H H' → Bx H' b → Q (.int r) H'
theorem ok_Ldraw (B : Bn mg) (D : Df K mg "_law_draw" s_Ldraw ["_law_box_here", "_law_many"]) : Cl CX0 P w K mg base 1 "_law_draw" sp_Ldraw := by
  refine D.ok sc_Ldraw (fun vs H Q E h => ?_) (fun f cdv A outer s H vs Q E hr h => ?_)
  · obtain ⟨b, m, rfl, _⟩ := h
    rfl
  obtain ⟨b, m, rfl, hm, ⟨dg, at_, ds, hb, h0, hd, hl, hds, hne⟩, q⟩ := h
  refine ⟨_, (pss_cons (ps_set (i := 2) sc_Ldraw.nd rfl (by first | exact Or.inl rfl | exact Or.inr rfl) (pe_ix ix_list (pv 0) pe_int (fun _ _ => rfl)))
  (pss_cons (ps_asg (pe_op op_add (pv 2) pe_int) (pg_sub (pv 0) pe_int set_list))
  (pss_cons (ps_if (pt_cmpR op_lt (pv 2) (pe_callB call_len_seq (by rfl) B.len PySem.boot_len (pa_cons (pe_ix ix_list (pv 0) pe_int (fun _ _ => rfl)) pa_nil)) (nomark _))
    (pss_one (ps_ret (pe_op op_mod (pe_callTy call_int1 (by rfl) B.int (by decide +kernel) (pa_cons (pe_ix ix_list (pe_ix ix_list (pv 0) pe_int (fun _ _ => rfl)) (pv 2) (fun _ _ => rfl)) pa_nil)) (pv 1))))
    pss_nil)
  (pss_one (ps_ret pe_int))))), ?_⟩
  refine ⟨_, rfl, b, _, _, _, rfl, rfl, SqL.of hb, rfl, ?_⟩
  refine ⟨_, rfl, _, _, rfl, rfl, _, rfl, b, _, _, 1, rfl, rfl, hb, rfl, ?_⟩
  have hb' : upd H b (.lst ([.ref dg, .int at_].set 1 (.int (at_ + 1)))) b = some (.lst [.ref dg, .int (at_ + 1)]) := upd_same
  have g : Gx [b] H (upd H b (.lst ([.ref dg, .int at_].set 1 (.int (at_ + 1))))) := Gx.set hb rfl
  have hd' := g.lst hd (by simp [hne])
  have bx : Bx (upd H b (.lst ([.ref dg, .int at_].set 1 (.int (at_ + 1))))) b := ⟨dg, at_ + 1, ds, hb', by omega, hd', hl, hds, hne⟩
  refine ⟨_, rfl, _, rfl, b, _, _, _, rfl, rfl, SqL.of hb', rfl, dg, _, rfl, .inl (SqL.of hd'), _, _, rfl, rfl, _, rfl, ?_⟩
  refine ite2 (fun c => ?_) (fun c => ?_)
  · have c' := of_decide_eq_true c
    rw [List.length_map] at c'
    obtain ⟨j, rfl⟩ : ∃ j : Nat, at_ = (j : Int) := ⟨at_.toNat, by omega⟩
    have hj : j < ds.length := by omega
    have hdj := hds _ (List.getElem_mem hj)
    refine ⟨_, rfl, b, _, _, _, rfl, rfl, SqL.of hb', rfl, _, rfl, dg, _, _, _, rfl, rfl, SqL.of hd', atI_nat (by rw [List.getElem?_map, List.getElem?_eq_getElem hj]; rfl), .inl ⟨_, rfl, _, rfl, _, _, rfl, rfl, hm, ?_⟩⟩
    exact q _ _ (Int.emod_nonneg _ (by omega)) (Int.emod_lt_of_pos _ hm) g bx
  · exact q 0 _ (by omega) hm g bx
/-- digits: each from 0 to 999, not more than n -/
def Dg (ds : List Int) (n : Nat) : Prop := ds.length ≤ n ∧ ∀ d ∈ ds, 0 ≤ d ∧ d < 1000
theorem Dg.snoc {ds : List Int} {n : Nat} (h : Dg ds n) {z : Int} : Dg (ds ++ [z % 1000]) (n + 1) :=
  ⟨by rw [List.length_append, List.length_singleton]; exact Nat.succ_le_succ h.1, fun d hd => by
    rcases List.mem_append.mp hd with m | m
    · exact h.2 d m
    · rw [List.mem_singleton.mp m]; exact ⟨Int.emod_nonneg _ (by omega), Int.emod_lt_of_pos _ (by omega)⟩⟩
theorem Dg.mono {ds : List Int} {n m : Nat} (h : Dg ds n) (l : n ≤ m) : Dg ds m := ⟨Nat.le_trans h.1 l, h.2⟩
/-- a list of digits that was made here, all else as it was -/
structure Dl (H0 H : Hp) (d : Addr) (n : Nat) : Prop where
  gr : Gr H0 H
  ex : ∃ ds, H d = some (.lst (ds.map V.int)) ∧ Dg ds n
theorem Dl.snoc {H0 H : Hp} {d : Addr} {n : Nat} (h : Dl H0 H d n) (hn : H0 d = none) {ds : List Int} (e : H d = some (.lst (ds.map V.int))) (hd : Dg ds n) {z : Int} : Dl H0 (upd H d (.lst (ds.map V.int ++ [V.int (z % 1000)]))) d (n + 1) :=
  ⟨h.gr.drop (Gx.set e rfl) (fun a m => by rw [List.mem_singleton.mp m]; exact .inr hn), ds ++ [z % 1000], by rw [upd_same, List.map_append]; rfl, hd.snoc⟩
theorem Dl.mono {H0 H : Hp} {d : Addr} {n m : Nat} (h : Dl H0 H d n) (l : n ≤ m) : Dl H0 H d m := ⟨h.gr, h.ex.imp fun _ q => ⟨q.1, q.2.mono l⟩⟩
abbrev N_Ldigits : List Str := ["_law_script", "_law_first", "_law_last", "_law_digits_here", "_law_k", "_law_cell_here", "_law_turn", "_law_seed"]
theorem sc_Ldigits : FnScope N_Ldigits ["_law_script", "_law_first", "_law_last"] (defScope s_Ldigits) := ⟨rfl, rfl, rfl, by decide +kernel, rfl, by decide +kernel, by decide +kernel⟩
def sp_Ldigits (K : PySem.W.Frag) : Sp := fun vs H Q _ => ∃ (a : Addr) (ns : List Int) (f l : Int), vs = [.ref a, .int f, .int l] ∧ SqL K H a (ns.map V.int) ∧ 0 ≤ f ∧ f ≤ 63 ∧ 0 ≤ l ∧ l ≤ 63 ∧
  ∀ (d : Addr) (H' : Hp), H d = none → Dl H H' d 3780 → Q (.ref d) H'
theorem ok_Ldigits (B : Bn mg) (D : Df K mg "_law_digits" s_Ldigits ["_law_script", "_law_first", "_law_last"]) (c_Lcell : Cl CX0 P w K mg base 1 "_law_cell" (sp_Lcell K)) : Cl CX0 P w K mg base 2 "_law_digits" (sp_Ldigits K) := by
  refine D.ok sc_Ldigits (fun vs H Q E h => ?_) (fun f cdv A outer s H vs Q E hr h => ?_)
  · obtain ⟨a, ns, f, l, rfl, _⟩ := h
    rfl
  obtain ⟨a, ns, f, l, rfl, hS, f0, f1, l0, l1, q⟩ := h
  refine ⟨_, (pss_cons (ps_set (i := 3) sc_Ldigits.nd rfl (by first | exact Or.inl rfl | exact Or.inr rfl) (pe_lst pa_nil))
  (pss_cons (ps_for PassesOwn.never rfl (pi_range2 (by rfl) B.range (pa_cons (pv 1) (pa_cons (pv 2) pa_nil))) (pg_name (i := 4) sc_Ldigits.nd rfl (by first | exact Or.inl rfl | exact Or.inr rfl))
    (pss_cons (ps_set (i := 5) sc_Ldigits.nd rfl (by first | exact Or.inl rfl | exact Or.inr rfl) (pc c_Lcell hr (by omega) rfl ps0 (pa_cons (pv 0) (pa_cons (pv 4) pa_nil))))
  (C8.pss_cut (ps_if (pt_cmpR op_lt (pv 5) pe_int (nomark _))
    (pss_one (ps_set (i := 5) sc_Ldigits.nd rfl (by first | exact Or.inl rfl | exact Or.inr rfl) (pe_op op_sub pe_int (pe_op op_mul pe_int (pv 5)))))
    pss_nil)
  (pss_one (ps_if (pt_cmpR op_ge (pv 5) (pe_op op_pow pe_int pe_int) (nomark _))
    (pss_one (ps_for PassesOwn.never rfl (pi_range1 (by rfl) B.range (pa_cons pe_int pa_nil)) (pg_name (i := 6) sc_Ldigits.nd rfl (by first | exact Or.inl rfl | exact Or.inr rfl))
    (pss_one (ps_if (pt_cmpR op_gt (pv 5) pe_int (nomark _))
    (pss_cons (ps_expr (pe_bm PySem.F.plainAttrs_list PySem.F.slot_list_append PySem.F.type_list_append mt_append (pv 3) (pa_cons (pe_op op_mod (pe_callTy call_int1 (by rfl) B.int (by decide +kernel) (pa_cons (pv 5) pa_nil)) pe_int) pa_nil)))
  (pss_one (ps_set (i := 5) sc_Ldigits.nd rfl (by first | exact Or.inl rfl | exact Or.inr rfl) (pe_op op_fdiv (pv 5) pe_int))))
    pss_nil))))
    (pss_cons (ps_set (i := 7) sc_Ldigits.nd rfl (by first | exact Or.inl rfl | exact Or.inr rfl) (pe_op op_mod (pe_callTy call_int1 (by rfl) B.int (by decide +kernel) (pa_cons (pe_op op_add (pe_op op_add (pe_op op_mul (pv 5) pe_int) (pe_op op_mul (pv 4) pe_int)) pe_int) pa_nil)) pe_int))
  (pss_one (ps_for PassesOwn.never rfl (pi_range1 (by rfl) B.range (pa_cons pe_int pa_nil)) (pg_name (i := 6) sc_Ldigits.nd rfl (by first | exact Or.inl rfl | exact Or.inr rfl))
    (pss_cons (ps_set (i := 7) sc_Ldigits.nd rfl (by first | exact Or.inl rfl | exact Or.inr rfl) (pe_op op_mod (pe_callTy call_int1 (by rfl) B.int (by decide +kernel) (pa_cons (pe_op op_add (pe_op op_add (pe_op op_mul (pv 7) pe_int) (pe_op op_mul pe_int (pv 6))) pe_int) pa_nil)) pe_int))
  (pss_one (ps_expr (pe_bm PySem.F.plainAttrs_list PySem.F.slot_list_append PySem.F.type_list_append mt_append (pv 3) (pa_cons (pe_op op_mod (pe_callTy call_int1 (by rfl) B.int (by decide +kernel) (pa_cons (pe_op op_fdiv (pv 7) pe_int) pa_nil)) pe_int) pa_nil)))))))))))))
  (pss_one (ps_ret (pv 3))))), ?_⟩
  refine ⟨(by show 0 ≤ sizeLine; decide), fun d hd => ?_⟩
  refine ⟨_, rfl, _, rfl, f, l, rfl, ⟨by omega, by omega, by omega, by omega⟩, for_range (lo := f) (n := (l - f).toNat) (fun i σ H2 => ∃ v4 v5 v6 v7, σ = [some (.ref a), some (.int f), some (.int l), some (.ref d), v4, v5, v6, v7] ∧ Dl H H2 d (60 * i)) ⟨none, none, none, none, rfl, ⟨Gx.new hd, [], upd_same, Nat.zero_le _, fun d h => nomatch h⟩⟩ ?_ ?_⟩
  · rintro i σ H2 hi ⟨v4, v5, v6, v7, rfl, W⟩
    have i63 : i < 63 := by omega
    refine ⟨_, rfl, _, rfl, a, ns, f + (i : Int), rfl, W.gr.sqG hS, by omega, fun c => ?_⟩
    refine ⟨fun σ' H' => H' = H2 ∧ ∃ c : Int, σ' = [some (.ref a), some (.int f), some (.int l), some (.ref d), some (.int (f + (i : Int))), some (.int c), v6, v7], ?_, ?_⟩
    · refine ⟨_, rfl, _, _, rfl, rfl, _, rfl, ?_⟩
      refine ite2 (fun _ => ?_) (fun _ => ?_)
      · exact ⟨_, rfl, _, _, rfl, rfl, .inl ⟨by decide, by decide⟩, _, _, rfl, rfl, rfl, _, rfl⟩
      · exact ⟨rfl, _, rfl⟩
    · rintro σ' H' ⟨rfl, c, rfl⟩
      refine ⟨_, rfl, _, _, rfl, rfl, ⟨by decide, by decide, by decide⟩, _, _, rfl, rfl, _, rfl, ?_⟩
      refine ite2 (fun _ => ?_) (fun _ => ?_)
      · refine ⟨60, rfl, by decide, by decide, for_range (lo := 0) (n := 60) (fun j σ H3 => ∃ v5 v6, σ = [some (.ref a), some (.int f), some (.int l), some (.ref d), some (.int (f + (i : Int))), some (.int v5), v6, v7] ∧ Dl H H3 d (60 * i + j)) ⟨c, v6, rfl, W⟩ ?_ ?_⟩
        · rintro j σ H3 hj ⟨v5, v6, rfl, W3⟩
          obtain ⟨ds, e, hds⟩ := W3.ex
          refine ⟨_, rfl, _, _, rfl, rfl, _, rfl, ?_⟩
          refine ite2 (fun _ => ?_) (fun _ => ?_)
          · refine ⟨_, rfl, .inl ⟨rfl, _, .inl (.inl e)⟩, _, rfl, .inl ⟨_, rfl, _, _, rfl, rfl, (by show (0 : Int) < 1000; decide), d, _, _, rfl, rfl, e, ?_, ?_⟩⟩
            · rw [List.length_map]; exact szlt hds.1 (by omega)
            · exact ⟨_, rfl, _, _, rfl, rfl, ⟨by decide, by decide⟩, _, _, rfl, W3.snoc hd e hds⟩
          · exact ⟨_, _, rfl, W3.mono (Nat.le_succ _)⟩
        · rintro σ H3 ⟨v5, v6, rfl, W3⟩
          exact ⟨_, _, _, _, rfl, W3.mono (by omega)⟩
      · refine ⟨_, rfl, _, _, rfl, rfl, .inr ⟨by decide, by decide⟩, _, rfl, _, _, rfl, rfl, .inr ⟨by decide, by decide⟩, _, _, rfl, rfl, _, _, rfl, rfl, .inl ⟨_, rfl, _, _, rfl, rfl, (by show (0 : Int) < 2147483647; decide), ?_⟩⟩
        refine ⟨12, rfl, by decide, by decide, for_range (lo := 0) (n := 12) (fun j σ H3 => ∃ v6 v7, σ = [some (.ref a), some (.int f), some (.int l), some (.ref d), some (.int (f + (i : Int))), some (.int c), v6, some (.int v7)] ∧ Dl H H3 d (60 * i + j)) ⟨_, _, rfl, W⟩ ?_ ?_⟩
        · rintro j σ H3 hj ⟨v6, v7, rfl, W3⟩
          obtain ⟨ds, e, hds⟩ := W3.ex
          refine ⟨_, rfl, _, _, rfl, rfl, .inr ⟨by decide, by decide⟩, _, rfl, _, _, rfl, rfl, .inl ⟨by decide, by decide⟩, _, _, rfl, rfl, _, _, rfl, rfl, .inl ⟨_, rfl, _, _, rfl, rfl, (by show (0 : Int) < 2147483647; decide), ?_⟩⟩
          refine ⟨_, rfl, .inl ⟨rfl, _, .inl (.inl e)⟩, _, rfl, _, _, rfl, rfl, ⟨by decide, by decide⟩, .inl ⟨_, rfl, _, _, rfl, rfl, (by show (0 : Int) < 1000; decide), d, _, _, rfl, rfl, e, ?_, ?_⟩⟩
          · rw [List.length_map]; exact szlt hds.1 (by omega)
          · exact ⟨_, _, rfl, W3.snoc hd e hds⟩
        · rintro σ H3 ⟨v6, v7, rfl, W3⟩
          exact ⟨_, _, _, _, rfl, W3.mono (by omega)⟩
  · rintro σ H2 ⟨v4, v5, v6, v7, rfl, W⟩
    exact ⟨_, rfl, q d _ hd (W.mono (by omega))⟩
abbrev N_Lbox : List Str := ["_law_script", "_law_first", "_law_last"]
theorem sc_Lbox : FnScope N_Lbox ["_law_script", "_law_first", "_law_last"] (defScope s_Lbox) := ⟨rfl, rfl, rfl, by decide +kernel, rfl, by decide +kernel, by decide +kernel⟩
def sp_Lbox (K : PySem.W.Frag) : Sp := fun vs H Q _ => ∃ (a : Addr) (ns : List Int) (f l : Int), vs = [.ref a, .int f, .int l] ∧ SqL K H a (ns.map V.int) ∧ 0 ≤ f ∧ f ≤ 63 ∧ 0 ≤ l ∧ l ≤ 63 ∧
  ∀ (b : Addr) (H' : Hp), H b = none → Gr H H' → Bx H' b → Q (.ref b) H'
theorem ok_Lbox (B : Bn mg) (D : Df K mg "_law_box" s_Lbox ["_law_script", "_law_first", "_law_last"]) (c_Ldigits : Cl CX0 P w K mg base 2 "_law_digits" (sp_Ldigits K)) : Cl CX0 P w K mg base 3 "_law_box" (sp_Lbox K) := by
  refine D.ok sc_Lbox (fun vs H Q E h => ?_) (fun f cdv A outer s H vs Q E hr h => ?_)
  · obtain ⟨a, ns, f, l, rfl, _⟩ := h
    rfl
  obtain ⟨a, ns, f, l, rfl, hS, f0, f1, l0, l1, q⟩ := h
  refine ⟨_, (pss_one (ps_ret (pe_lst (pa_cons (pc c_Ldigits hr (by omega) rfl ps0 (pa_cons (pv 0) (pa_cons (pv 1) (pa_cons (pv 2) pa_nil)))) (pa_cons pe_int pa_nil))))), ?_⟩
  refine ⟨_, rfl, _, rfl, _, rfl, a, ns, f, l, rfl, hS, f0, f1, l0, l1, fun d H1 hd W => ?_⟩
  refine ⟨(by show 2 ≤ sizeLine; decide), fun p hp => ?_⟩
  obtain ⟨ds, e, hds⟩ := W.ex
  have n1 : d ≠ p := ne_of_none e hp
  exact q p _ (W.gr.dom _ hp) (W.gr.trans (Gx.new hp)) ⟨d, 0, ds, upd_same, by omega, by rw [upd_ne n1]; exact e, by have := hds.1; omega, hds.2, n1⟩
def L8 : List Str := ["a", "b", "c", "d", "e", "f", "g", "h"]
theorem l8_at : ∀ (j : Nat), j < 8 → ∃ c, ("abcdefgh" : Str).cps.toList[j]? = some c ∧ (⟨#[c]⟩ : Str) ∈ L8
  | 0, _ => ⟨_, rfl, by decide +kernel⟩ | 1, _ => ⟨_, rfl, by decide +kernel⟩ | 2, _ => ⟨_, rfl, by decide +kernel⟩ | 3, _ => ⟨_, rfl, by decide +kernel⟩
  | 4, _ => ⟨_, rfl, by decide +kernel⟩ | 5, _ => ⟨_, rfl, by decide +kernel⟩ | 6, _ => ⟨_, rfl, by decide +kernel⟩ | 7, _ => ⟨_, rfl, by decide +kernel⟩
  | n + 8, h => absurd h (by omega)
theorem l8_int {r : Int} (h0 : 0 ≤ r) (h1 : r < 8) : ∃ c, atI ("abcdefgh" : Str).cps.toList r = some c ∧ (⟨#[c]⟩ : Str) ∈ L8 := by
  obtain ⟨j, rfl⟩ : ∃ j : Nat, r = (j : Int) := ⟨r.toNat, by omega⟩
  obtain ⟨c, e, m⟩ := l8_at j (by omega)
  exact ⟨c, atI_nat e, m⟩
abbrev N_Lany : List Str := ["_law_box_here", "_law_room", "_law_many", "_law_kind", "_law_left", "_law_first"]
theorem sc_Lany : FnScope N_Lany ["_law_box_here", "_law_room", "_law_many"] (defScope s_Lany) := ⟨rfl, rfl, rfl, by decide +kernel, rfl, by decide +kernel, by decide +kernel⟩
def sp_Lany (K : PySem.W.Frag) (n : Nat) : Sp := fun vs H Q _ => ∃ (b : Addr) (room many : Int), vs = [.ref b, .int room, .int many] ∧ Bx H b ∧ 0 ≤ room ∧ room < n ∧ 1 ≤ many ∧ many ≤ 8 ∧
  ∀ (v : V) (f : Fm) (H' : Hp), Gx [b] H H' → Bx H' b → FmV K H' v f → ((f.size : Int) ≤ room ∨ f.size = 1) → (∀ x ∈ f.lets, x ∈ L8) → Q v H'
theorem st_Lany {n : Nat} (B : Bn mg) (D : Df K mg "_law_any" s_Lany ["_law_box_here", "_law_room", "_law_many"]) (c_Ldraw : Cl CX0 P w K mg base 1 "_law_draw" sp_Ldraw) (c_Lany : Cl CX0 P w K mg base (n + 1) "_law_any" (sp_Lany K n)) :
    Cl CX0 P w K mg base (n + 2) "_law_any" (sp_Lany K (n + 1)) := by
  refine D.ok sc_Lany (fun vs H Q E h => ?_) (fun f cdv A outer s H vs Q E hr h => ?_)
  · obtain ⟨b, room, many, rfl, _⟩ := h
    rfl
  obtain ⟨b, room, many, rfl, hB, h0, hn, m0, m1, q⟩ := h
  refine ⟨_, (pss_cons (ps_set (i := 3) sc_Lany.nd rfl (by first | exact Or.inl rfl | exact Or.inr rfl) (pc c_Ldraw hr (by omega) rfl ps0 (pa_cons (pv 0) (pa_cons pe_int pa_nil))))
  (pss_cons (ps_if (PW.pt (pw_or (pt_cmpR op_lt (pv 1) pe_int (nomark _)) (pw_or1 (pt_cmpR op_lt (pv 3) pe_int (nomark _)))))
    (pss_one (ps_ret (pe_tup (pa_cons pe_str (pa_cons (pe_ix ix_str pe_str (pc c_Ldraw hr (by omega) rfl ps0 (pa_cons (pv 0) (pa_cons (pv 2) pa_nil))) (fun _ _ => rfl)) pa_nil)))))
    pss_nil)
  (pss_cons (ps_if (PW.pt (pw_or (pt_cmpR op_lt (pv 1) pe_int (nomark _)) (pw_or1 (pt_cmpR op_lt (pv 3) pe_int (nomark _)))))
    (pss_one (ps_ret (pe_tup (pa_cons pe_str (pa_cons (pc c_Lany hr (by omega) rfl ps0 (pa_cons (pv 0) (pa_cons (pe_op op_sub (pv 1) pe_int) (pa_cons (pv 2) pa_nil)))) pa_nil)))))
    pss_nil)
  (pss_cons (ps_set (i := 4) sc_Lany.nd rfl (by first | exact Or.inl rfl | exact Or.inr rfl) (pe_op op_add pe_int (pc c_Ldraw hr (by omega) rfl ps0 (pa_cons (pv 0) (pa_cons (pe_op op_sub (pv 1) pe_int) pa_nil)))))
  (pss_cons (ps_set (i := 5) sc_Lany.nd rfl (by first | exact Or.inl rfl | exact Or.inr rfl) (pc c_Lany hr (by omega) rfl ps0 (pa_cons (pv 0) (pa_cons (pv 4) (pa_cons (pv 2) pa_nil)))))
  (pss_one (ps_ret (pe_tup (pa_cons pe_str (pa_cons (pv 5) (pa_cons (pc c_Lany hr (by omega) rfl ps0 (pa_cons (pv 0) (pa_cons (pe_op op_sub (pe_op op_sub (pv 1) pe_int) (pv 4)) (pa_cons (pv 2) pa_nil)))) pa_nil))))))))))), ?_⟩
  refine ⟨_, rfl, b, 8, rfl, by decide, hB, fun kind H1 k0 k1 g1 B1 => ?_⟩
  refine ⟨_, rfl, _, _, rfl, rfl, _, rfl, ite2 (fun c => iteT ?l1) (fun c1 => ⟨_, rfl, _, _, rfl, rfl, _, rfl, ite2 (fun c => ?l2) (fun c => ?l3)⟩)⟩
  case l1 | l2 =>
    refine ⟨_, rfl, _, rfl, b, many, rfl, by omega, B1, fun r H2 r0 r1 g2 B2 => ?_⟩
    obtain ⟨cc, e, m⟩ := l8_int r0 (by omega)
    refine ⟨_, r, cc, rfl, rfl, (by decide : ("abcdefgh" : Str).length ≤ sizeLine), e, (by show 2 ≤ sizeLine; decide), fun p hp => ?_⟩
    have g3 : Gx [b] H2 (upd H2 p (.tup [.str "letter", .str ⟨#[cc]⟩])) := Gx.new hp
    exact q _ (.lt ⟨#[cc]⟩) _ ((g1.trans g2).trans g3) (B2.gr (Gx.new hp)) (mk_lt (SqT.of upd_same)) (.inr rfl) fun x hx => by rw [List.mem_singleton.mp hx]; exact m
  have r2 : ¬ room < 2 := fun z => c1 (decide_eq_true z)
  refine ⟨_, rfl, _, _, rfl, rfl, _, rfl, ite2 (fun c => iteT ?m1) (fun c3 => ⟨_, rfl, _, _, rfl, rfl, _, rfl, ite2 (fun c => ?m2) (fun c => ?m3)⟩)⟩
  case m1 | m2 =>
    refine ⟨_, rfl, _, rfl, _, _, rfl, rfl, _, rfl, b, room - 1, many, rfl, B1, by omega, by omega, m0, m1, fun v f H2 g2 B2 hf hs hl => ?_⟩
    refine ⟨(by show 2 ≤ sizeLine; decide), fun p hp => ?_⟩
    have g3 : Gx [b] H2 (upd H2 p (.tup [.str "not", v])) := Gx.new hp
    refine q _ (.ng f) _ ((g1.trans g2).trans g3) (B2.gr (Gx.new hp)) (mk_ng (SqT.of upd_same) (g3.dt hf)) (.inl ?_) hl
    show ((1 + f.size : Nat) : Int) ≤ room
    omega
  have r3 : ¬ room < 3 := fun z => c3 (decide_eq_true z)
  refine ⟨_, rfl, _, rfl, _, _, rfl, rfl, b, room - 2, rfl, by omega, B1, fun r H2 r0 r1 g2 B2 => ?_⟩
  refine ⟨_, _, rfl, rfl, _, rfl, _, rfl, _, rfl, b, 1 + r, many, rfl, B2, by omega, by omega, m0, m1, fun v f H3 g3 B3 hf hs hl => ?_⟩
  refine ⟨_, rfl, _, rfl, _, rfl, _, _, rfl, rfl, _, rfl, _, _, rfl, rfl, _, rfl, b, room - 1 - (1 + r), many, rfl, B3, by omega, by omega, m0, m1, fun v4 f4 H4 g4 B4 hf4 hs4 hl4 => ?_⟩
  refine ⟨(by show 3 ≤ sizeLine; decide), fun p hp => ?_⟩
  have g5 : Gx [b] H4 (upd H4 p (.tup [.str "if", v, v4])) := Gx.new hp
  refine q _ (.im f f4) _ ((((g1.trans g2).trans g3).trans g4).trans g5) (B4.gr (Gx.new hp)) (mk_im (SqT.of upd_same) (g5.dt (g4.dt hf)) (g5.dt hf4)) (.inl ?_) fun x hx => (List.mem_append.mp hx).elim (hl x) (hl4 x)
  show ((1 + (f.size + f4.size) : Nat) : Int) ≤ room
  omega
theorem ok_Lany (B : Bn mg) (D : Df K mg "_law_any" s_Lany ["_law_box_here", "_law_room", "_law_many"]) (c_Ldraw : Cl CX0 P w K mg base 1 "_law_draw" sp_Ldraw) : ∀ n : Nat, Cl CX0 P w K mg base (n + 1) "_law_any" (sp_Lany K n)
  | 0 => D.none fun vs H Q E ⟨b, room, many, _, _, h0, h1, _⟩ => by omega
  | n + 1 => st_Lany B D c_Ldraw (ok_Lany B D c_Ldraw n)
abbrev N_Lput : List Str := ["_law_formula", "_law_table", "_law_part"]
theorem sc_Lput : FnScope N_Lput ["_law_formula", "_law_table"] (defScope s_Lput) := ⟨rfl, rfl, rfl, by decide +kernel, rfl, by decide +kernel, by decide +kernel⟩
def sp_Lput (K : PySem.W.Frag) (n : Nat) : Sp := fun vs H Q _ => ∃ (v : V) (d : Addr) (f : Fm) (t : Str → Option Fm), vs = [v, .ref d] ∧ FmV K H v f ∧ f.depth ≤ n ∧ (∃ N, Tb K H d N t) ∧
  ∀ (u : V) (H' : Hp), Gr H H' → FmV K H' u (f.put t) → Q u H'
theorem st_Lput {n : Nat} (B : Bn mg) (D : Df K mg "_law_put" s_Lput ["_law_formula", "_law_table"]) (c_Lput : Cl CX0 P w K mg base n "_law_put" (sp_Lput K n)) : Cl CX0 P w K mg base (n + 1) "_law_put" (sp_Lput K (n + 1)) := by
  refine D.ok sc_Lput (fun vs H Q E h => ?_) (fun f cdv A outer s H vs Q E hr h => ?_)
  · obtain ⟨v, d, f, t, rfl, _⟩ := h
    rfl
  obtain ⟨v, d, f, t, rfl, hf, hn, ⟨N0, hT⟩, q⟩ := h
  refine ⟨_, (pss_cons (ps_if (pt_cmpR op_eq (pe_ix ix_tup (pv 0) pe_int (fun _ _ => rfl)) pe_str (nomark _))
    (pss_one (ps_ret (pe_dget2 (hu_of hr) (pv 1) (pe_ix ix_tup (pv 0) pe_int (fun _ _ => rfl)) (pv 0) ⟨rfl, by rfl, by rfl, by rfl⟩)))
    pss_nil)
  (pss_one (ps_ret (pe_op op_catT (pe_tup (pa_cons (pe_ix ix_tup (pv 0) pe_int (fun _ _ => rfl)) pa_nil)) (pe_callTy call_tuple_of (by rfl) B.tuple (by decide +kernel) (pa_cons (pe_lc (own := [("_law_part", 2)]) rfl sc_Lput.nd (pi_tup (pe_slice sl_tup (pv 0) (po_some pe_int) po_none)) (blkOk_by (N := N_Lput) (sc := defScope s_Lput) (by decide +kernel)) (fun _ _ _ _ _ => (pg_name (i := 2) sc_Lput.nd rfl (by first | exact Or.inl rfl | exact Or.inr rfl))) (fun _ _ _ _ _ => pts_nil) (fun _ _ _ _ _ => (pc c_Lput hr (by omega) rfl ps0 (pa_cons (pv 2) (pa_cons (pv 1) pa_nil))))) pa_nil)))))), ?_⟩
  cases hl : f.isLt with
  | true =>
    cases f with
    | lt x =>
      obtain ⟨a, rfl, ha⟩ := fm_lt hf
      obtain ⟨kvs, h1, h2, h3⟩ := hT.ex
      refine ⟨_, rfl, a, _, _, _, rfl, rfl, ha, rfl, (by decide : scal (V.str "letter") (V.str "letter") = true), _, rfl, ?_⟩
      refine iteT ?_
      refine ⟨_, rfl, d, rfl, .inl ⟨kvs, .inl h1⟩, _, rfl, a, _, _, _, rfl, rfl, ha, rfl, _, rfl, _, DGet.k (k := Sum.inr x) h1, ?_⟩
      rcases h3 x with ⟨e1, e2⟩ | ⟨g, u, e1, e2, hu⟩
      · rw [e2]
        refine q _ _ Gx.refl ?_
        show FmV K H _ ((t x).getD (.lt x))
        rw [e1]; exact hf
      · rw [e2]
        refine q _ _ Gx.refl ?_
        show FmV K H _ ((t x).getD (.lt x))
        rw [e1]; exact hu
    | ng p => cases hl
    | im p q => cases hl
  | false =>
    obtain ⟨a, xs, rfl, ha, hk⟩ := fm_node hf hl
    have hlen : xs.length = f.kids.length := by rw [hk.len, List.length_map]
    have hlen2 : xs.length ≤ 2 := by rw [hlen]; exact f.kids_len
    have hx0 : xs ≠ [] := fun e => f.kids_ne hl (List.length_eq_zero_iff.mp (by rw [← hlen, e]; rfl))
    refine ⟨_, rfl, a, _, _, _, rfl, rfl, ha, at0, (by rfl : scal (V.str f.tag) (V.str "letter") = true), _, rfl, ?_⟩
    rw [Fm.tag_ne hl]
    refine iteF ?_
    refine ⟨_, rfl, a, _, _, _, rfl, rfl, ha, at0, (by show 1 ≤ sizeLine; decide), fun p hp => ?_⟩
    refine ⟨_, rfl, 1, rfl, a, _, rfl, (Gx.new hp : Gr _ _).sqT ha, ?_, fun c hc => ?_⟩
    · rw [show HT.sIx (V.str f.tag :: xs).length 0 (some 1) = 1 from (HT.sIx_nat _ 0 1).trans (by rw [List.length_cons]; omega)]
      exact fun z => absurd z.1 (by decide)
    have ec : cutV (V.str f.tag :: xs) (some 1) none = xs := by
      unfold cutV
      rw [show HT.sIx (V.str f.tag :: xs).length 0 (some 1) = 1 from (HT.sIx_nat _ 0 1).trans (by rw [List.length_cons]; omega), HT.sIx_none]
      show List.take ((xs.length + 1) - 1) xs = xs
      exact List.take_of_length_le (by omega)
    rw [ec]
    have gp : Gr H (upd H p (.tup [.str f.tag])) := Gx.new hp
    have gc : Gr H (upd (upd H p (.tup [.str f.tag])) c (.tup xs)) := gp.trans (Gx.new hc)
    refine ⟨c, rfl, ⟨xs, SqT.of upd_same⟩, fun D hD => ?_⟩
    have hpD : ∀ H', Gr (upd (upd H p (.tup [.str f.tag])) c (.tup xs)) H' → H' p = some (.tup [.str f.tag]) := fun H' g => g.tup p _ (by rw [upd_ne (ne_of_none (upd_same (o := .tup [.str f.tag])) hc)]; exact upd_same)
    have hcD : ∀ H', Gr (upd (upd H p (.tup [.str f.tag])) c (.tup xs)) H' → H' c = some (.tup xs) := fun H' g => g.tup c _ upd_same
    refine lc_tup (K := K) (a := c) (xs := xs) (fun i H' => Gr (upd (upd H p (.tup [.str f.tag])) c (.tup xs)) H' ∧ ∃ acc, H' D = some (.lst acc) ∧ acc.length = i ∧ DtAll K H' acc ((f.kids.take i).map fun g => (g.put t).d))
      ⟨Gx.new hD, [], upd_same, rfl, .nil⟩ (fun i H' _ ⟨g, _⟩ => SqT.of (hcD H' g)) ?_ ?_
    · rintro i x H' hi ⟨g, acc, e, el, ha'⟩
      have hik : i < f.kids.length := by rw [← hlen]; exact (List.getElem?_eq_some_iff.mp hi).1
      obtain ⟨x', e1, hx'⟩ := hk.get (i := i) (d := (f.kids[i]).d) (by rw [List.getElem?_map, List.getElem?_eq_getElem hik]; rfl)
      rw [hi] at e1; cases e1
      have hm : f.kids[i] ∈ f.kids := List.getElem_mem hik
      have hd := Fm.kids_depth hm
      have gH : Gr H H' := gc.trans g
      refine ⟨rfl, _, rfl, _, rfl, x, d, f.kids[i], t, rfl, gH.dt hx', by omega, ⟨N0, hT.gx gH (fun z => nomatch z)⟩, fun u H2 g2 hu => ?_⟩
      refine ⟨acc, g2.lst e (fun z => nomatch z), szlt (m := 2) (by omega) (by omega), ((g.trans g2).drop (S := []) (S' := [D]) (Gx.set (g2.lst e (fun z => nomatch z)) rfl) ?_), acc ++ [u], upd_same, by rw [List.length_append, el]; rfl, ?_⟩
      · intro z hz
        rw [List.mem_singleton.mp hz]
        exact .inr hD
      · have e2 : f.kids.take (i + 1) = f.kids.take i ++ [f.kids[i]] := by rw [List.take_succ, List.getElem?_eq_getElem hik]; rfl
        rw [e2, List.map_append]
        have gs : Gx [D] H2 (upd H2 D (.lst (acc ++ [u]))) := Gx.set (g2.lst e (fun z => nomatch z)) rfl
        exact DtAll.app (gs.dts (g2.dts ha')) (.cons (gs.dt hu) .nil)
    · rintro H' ⟨g, acc, e, el, ha'⟩
      have ek : f.kids.take xs.length = f.kids := List.take_of_length_le (by omega)
      rw [ek] at ha'
      refine ⟨D, acc, rfl, .inl ⟨SqL.of e, fun l hl' => ?_⟩⟩
      have gl : Gr H' (upd H' l (.tup acc)) := Gx.new hl'
      have hp2 : (upd H' l (.tup acc)) p = some (.tup [.str f.tag]) := gl.tup p _ (hpD H' g)
      refine ⟨p, l, _, _, rfl, rfl, SqT.of hp2, SqT.of upd_same, List.cons_ne_nil _ _, szle (m := 3) (by rw [List.length_singleton]; omega) (by omega), fun e0 => ?_, fun _ r hr2 => ?_⟩
      · rw [e0] at el; exact absurd (List.length_eq_zero_iff.mp el.symm) hx0
      · have gr2 : Gr (upd H' l (.tup acc)) (upd (upd H' l (.tup acc)) r (.tup ([.str f.tag] ++ acc))) := Gx.new hr2
        refine q _ _ (((gc.trans g).trans gl).trans gr2) ?_
        show Dt K _ _ (f.put t).d
        rw [Fm.put_node t hl]
        exact .tup (SqT.of upd_same) (.cons (.str _) (gr2.dts (gl.dts ha')))
theorem ok_Lput (B : Bn mg) (D : Df K mg "_law_put" s_Lput ["_law_formula", "_law_table"]) : ∀ n : Nat, Cl CX0 P w K mg base n "_law_put" (sp_Lput K n)
  | 0 => D.none fun vs H Q E ⟨_, _, f, _, _, _, h, _⟩ => by have := f.depth_pos; omega
  | n + 1 => st_Lput B D (ok_Lput B D n)
def N6 : List Str := ["a", "b", "z", "c7", "a0", "m9"]
theorem n6_at : ∀ (j : Nat), j < 6 → ∃ m, (N6.map V.str)[j]? = some (.str m) ∧ m ∈ N6
  | 0, _ => ⟨_, rfl, by decide +kernel⟩ | 1, _ => ⟨_, rfl, by decide +kernel⟩ | 2, _ => ⟨_, rfl, by decide +kernel⟩ | 3, _ => ⟨_, rfl, by decide +kernel⟩
  | 4, _ => ⟨_, rfl, by decide +kernel⟩ | 5, _ => ⟨_, rfl, by decide +kernel⟩
  | n + 6, h => absurd h (by omega)
theorem n6_int {r : Int} (h0 : 0 ≤ r) (h1 : r < 6) : ∃ m, atI (N6.map V.str) r = some (.str m) ∧ m ∈ N6 := by
  obtain ⟨j, rfl⟩ : ∃ j : Nat, r = (j : Int) := ⟨r.toNat, by omega⟩
  obtain ⟨c, e, m⟩ := n6_at j (by omega)
  exact ⟨c, atI_nat e, m⟩
abbrev N_Llettered : List Str := ["_law_box_here", "_law_room", "_law_many", "_law_names", "_law_table", "_law_name"]
theorem sc_Llettered : FnScope N_Llettered ["_law_box_here", "_law_room", "_law_many"] (defScope s_Llettered) := ⟨rfl, rfl, rfl, by decide +kernel, rfl, by decide +kernel, by decide +kernel⟩
def sp_Llettered (K : PySem.W.Frag) : Sp := fun vs H Q _ => ∃ (b : Addr) (room many : Int), vs = [.ref b, .int room, .int many] ∧ Bx H b ∧ 1 ≤ room ∧ room < 60 ∧ 1 ≤ many ∧ many ≤ 8 ∧
  ∀ (v : V) (f : Fm) (H' : Hp), Gx [b] H H' → Bx H' b → FmV K H' v f → (f.size : Int) ≤ room → (∀ x ∈ f.lets, x ∈ N6) → Q v H'
theorem ok_Llettered (B : Bn mg) (D : Df K mg "_law_lettered" s_Llettered ["_law_box_here", "_law_room", "_law_many"]) (c_Ldraw : Cl CX0 P w K mg base 1 "_law_draw" sp_Ldraw) (c_Lput : Cl CX0 P w K mg base 60 "_law_put" (sp_Lput K 60))
    (c_Lany : Cl CX0 P w K mg base 61 "_law_any" (sp_Lany K 60)) : Cl CX0 P w K mg base 62 "_law_lettered" (sp_Llettered K) := by
  refine D.ok sc_Llettered (fun vs H Q E h => ?_) (fun f cdv A outer s H vs Q E hr h => ?_)
  · obtain ⟨b, room, many, rfl, _⟩ := h
    rfl
  obtain ⟨b, room, many, rfl, hB, h0, hn, m0, m1, q⟩ := h
  refine ⟨_, (pss_cons (ps_set (i := 3) sc_Llettered.nd rfl (by first | exact Or.inl rfl | exact Or.inr rfl) (pe_lst (pa_cons pe_str (pa_cons pe_str (pa_cons pe_str (pa_cons pe_str (pa_cons pe_str (pa_cons pe_str pa_nil))))))))
  (pss_cons (ps_set (i := 4) sc_Llettered.nd rfl (by first | exact Or.inl rfl | exact Or.inr rfl) pe_dnewK)
  (pss_cons (ps_for PassesOwn.never rfl (pi_list (pe_lst (pa_cons pe_str (pa_cons pe_str (pa_cons pe_str (pa_cons pe_str (pa_cons pe_str (pa_cons pe_str (pa_cons pe_str (pa_cons pe_str pa_nil)))))))))) (pg_name (i := 5) sc_Llettered.nd rfl (by first | exact Or.inl rfl | exact Or.inr rfl))
    (pss_one (ps_dput (hu_of hr) (pv 4) (pv 5) (pe_tup (pa_cons pe_str (pa_cons (pe_ix ix_list (pv 3) (pc c_Ldraw hr (by omega) rfl ps0 (pa_cons (pv 0) (pa_cons pe_int pa_nil))) (fun _ _ => rfl)) pa_nil))) rfl)))
  (pss_one (ps_ret (pc c_Lput hr (by omega) rfl ps0 (pa_cons (pc c_Lany hr (by omega) rfl ps0 (pa_cons (pv 0) (pa_cons (pv 1) (pa_cons (pv 2) pa_nil)))) (pa_cons (pv 4) pa_nil)))))))), ?_⟩
  refine ⟨(by show 6 ≤ sizeLine; decide), fun nm hnm => ?_⟩
  generalize z1 : upd H nm _ = H1
  obtain ⟨g1, e1⟩ := hA_gr z1 hnm
  refine fun d hd => ?_
  generalize z2 : upd H1 d _ = H2
  obtain ⟨g2, e2⟩ := hA_gr z2 hd
  refine ⟨(by show 8 ≤ sizeLine; decide), fun l hl => ?_⟩
  generalize z3 : upd H2 l _ = HA
  obtain ⟨g3, e3⟩ := hA_gr z3 hl
  have e1 : H1 nm = some (.lst (N6.map V.str)) := e1
  have hl' : HA l = some (.lst (L8.map V.str)) := e3
  have g13 := (g1.trans g2).trans g3
  obtain ⟨dg, at_, ds, hb, _⟩ := hB.ex
  have nbd : b ≠ d := g1.ne hb hd
  have nnd : nm ≠ d := Gx.refl.ne (S := []) e1 hd
  have nbn : b ≠ nm := ne_of_none hb hnm
  have nbl : b ≠ l := (g1.trans g2).ne hb hl
  have nld : l ≠ d := (Gx.refl.ne (S := []) e2 hl).symm
  have hnm' : HA nm = some (.lst (N6.map V.str)) := g3.lst (g2.lst e1 (fun z => nomatch z)) (fun z => nomatch z)
  have hd' : HA d = some (.dK []) := gr_some g3 e2 fun ps e => nomatch e
  refine ⟨l, rfl, ⟨_, SqL.of hl'⟩, for_list (K := K) (a := l) (xs := L8.map V.str) (fun i σ H2 => ∃ v5 t, σ = [some (.ref b), some (.int room), some (.int many), some (.ref nm), some (.ref d), v5] ∧ Gx [b, d] HA H2 ∧ Bx H2 b ∧ Tb K H2 d i t ∧
    ∀ n ∈ L8.take i, ∃ m, t n = some (.lt m) ∧ m ∈ N6) ⟨none, _, rfl, Gx.refl, hB.gr g13, Tb.new hd', fun n h => nomatch h⟩ (fun i σ H2 _ ⟨_, _, _, g, _⟩ => SqL.of (g.lst hl' (by simp [nbl.symm, nld]))) ?_ ?_⟩
  · rintro i x σ H2 hi ⟨v5, t, rfl, g, B2, T2, ht⟩
    rw [List.getElem?_map] at hi
    obtain ⟨nx, hx, rfl⟩ : ∃ nx, L8[i]? = some nx ∧ V.str nx = x := by
      cases e : L8[i]? with
      | none => rw [e] at hi; cases hi
      | some nx => rw [e] at hi; exact ⟨nx, rfl, Option.some.inj hi⟩
    refine ⟨_, rfl, _, rfl, b, 6, rfl, by decide, B2, fun r H3 r0 r1 g3 B3 => ?_⟩
    obtain ⟨m, em, hm⟩ := n6_int r0 r1
    have gA : Gx [b, d] HA H3 := g.trans (g3.mono (by simp))
    refine ⟨nm, _, _, _, rfl, rfl, SqL.of (gA.lst hnm' (by simp [nbn.symm, nnd])), em, (by show 2 ≤ sizeLine; decide), fun p hp => ?_⟩
    have g4 : Gr H3 (upd H3 p (.tup [.str "letter", .str m])) := Gx.new hp
    have T3 : Tb K (upd H3 p (.tup [.str "letter", .str m])) d i t := (T2.gx g3 (by simp [nbd.symm])).gx g4 (fun z => nomatch z)
    obtain ⟨kvs, e1, e2, g5, T4⟩ := T3.dput nx (mk_lt (SqT.of upd_same) : FmV K _ (.ref p) (.lt m))
    have hi8 : i < 8 := by have := (List.getElem?_eq_some_iff.mp hx).1; exact this
    refine ⟨_, rfl, _, rfl, d, _, rfl, DPut.k (k := Sum.inr nx) e1 (szlt e2 (by omega)), ?_⟩
    refine ⟨_, _, rfl, (gA.trans (g4.mono (fun a h => nomatch h))).trans (g5.mono (by simp)), (B3.gr g4).gx g5 ?_, T4, fun n hn => ?_⟩
    · intro a ha
      rw [List.mem_singleton.mp ha]
      exact ⟨nbd.symm, fun xs e => by rw [e1] at e; cases e⟩
    · by_cases en : n = nx
      · exact ⟨m, if_pos en, hm⟩
      · obtain ⟨m', e', h'⟩ := ht n (by
          rw [List.take_succ, hx] at hn
          rcases List.mem_append.mp hn with h | h
          · exact h
          · exact absurd (List.mem_singleton.mp h) en)
        exact ⟨m', by show (if n = nx then _ else t n) = _; rw [if_neg en]; exact e', h'⟩
  · rintro σ H2 ⟨v5, t, rfl, g, B2, T2, ht⟩
    refine ⟨_, rfl, _, rfl, _, rfl, b, room, many, rfl, B2, by omega, by omega, m0, m1, fun v f H3 g3 B3 hf hs hl3 => ?_⟩
    have g03 : Gx [b] H H3 := ((g13.mono (fun a h => nomatch h)).drop (S := [b]) g (fun a ha => by
      rcases List.mem_cons.mp ha with rfl | ha
      · exact .inl (List.mem_singleton_self _)
      · rw [List.mem_singleton.mp ha]; exact .inr (g1.dom _ hd))).trans g3
    have hsz : (f.size : Int) ≤ room := by
      rcases hs with hs | hs
      · exact hs
      · omega
    have hdp := f.depth_le
    obtain ⟨p1, p2⟩ := Fm.put_lets (A := L8) (B := (· ∈ N6)) (t := t) (fun n hn => ht n (by rw [show (L8.map V.str).length = 8 from rfl, List.take_of_length_le (by decide)]; exact hn)) f hl3
    refine ⟨_, rfl, v, d, f, t, rfl, hf, by omega, ⟨_, T2.gx g3 (by simp [nbd.symm])⟩, fun u H4 g4 hu => ?_⟩
    exact q u _ H4 (g03.trans (g4.mono fun a h => nomatch h)) (B3.gr g4) hu (by rw [p1]; exact hsz) p2
theorem z_lp : ("(" : Str) = SX.S [40] := by decide +kernel
theorem z_rp : (")" : Str) = SX.S [41] := by decide +kernel
theorem z_ng : ("~" : Str) = SX.S [126] := by decide +kernel
theorem z_im : (" -> " : Str) = SX.S [32, 45, 62, 32] := by decide +kernel
theorem s_len (l : List Nat) : (SX.S l).length = l.length := SX.S_len l
abbrev N_Lsame : List Str := ["_law_actual", "_law_expected", "_law_k"]
theorem sc_Lsame : FnScope N_Lsame ["_law_actual", "_law_expected"] (defScope s_Lsame) := ⟨rfl, rfl, rfl, by decide +kernel, rfl, by decide +kernel, by decide +kernel⟩
/-- both are the same data: it says so -/
def sp_Lsame (K : PySem.W.Frag) (n : Nat) : Sp := fun vs H Q _ => ∃ (x y : V) (d : PyData), vs = [x, y] ∧ Dt K H x d ∧ Dt K H y d ∧ d.depth < n ∧ fine d = true ∧ Q (.bl true) H
theorem st_Lsame {n : Nat} (B : Bn mg) (D : Df K mg "_law_same" s_Lsame ["_law_actual", "_law_expected"]) (c_Lsame : Cl CX0 P w K mg base n "_law_same" (sp_Lsame K n)) : Cl CX0 P w K mg base (n + 1) "_law_same" (sp_Lsame K (n + 1)) := by
  refine D.ok sc_Lsame (fun vs H Q E h => ?_) (fun f cdv A outer s H vs Q E hr h => ?_)
  · obtain ⟨x, y, d, rfl, _⟩ := h
    rfl
  obtain ⟨x, y, d, rfl, hx, hy, hn, hz, q⟩ := h
  refine ⟨_, (pss_cons (ps_if (pt_val (pe_callB call_isi (by rfl) B.isinstance (by decide +kernel) (pa_cons (pv 1) (pa_cons (pe_bltn (v := .ty "tuple") (u := .type "tuple") (by rfl) B.tuple (by decide +kernel) rfl) pa_nil))))
    (pss_cons (ps_if (PW.pt (pw_or (pt_not (pt_val (pe_callB call_isi (by rfl) B.isinstance (by decide +kernel) (pa_cons (pv 0) (pa_cons (pe_bltn (v := .ty "tuple") (u := .type "tuple") (by rfl) B.tuple (by decide +kernel) rfl) pa_nil))))) (pw_or1 (pt_cmpR op_ne (pe_callB call_len_seq (by rfl) B.len PySem.boot_len (pa_cons (pv 0) pa_nil)) (pe_callB call_len_seq (by rfl) B.len PySem.boot_len (pa_cons (pv 1) pa_nil)) (nomark _)))))
    (pss_one (ps_ret pe_bl))
    pss_nil)
  (pss_cons (ps_for PassesOwn.never rfl (pi_range1 (by rfl) B.range (pa_cons (pe_callB call_len_seq (by rfl) B.len PySem.boot_len (pa_cons (pv 1) pa_nil)) pa_nil)) (pg_name (i := 2) sc_Lsame.nd rfl (by first | exact Or.inl rfl | exact Or.inr rfl))
    (pss_one (ps_if (pt_not (pt_val (pc c_Lsame hr (by omega) rfl ps0 (pa_cons (pe_ix ix_tup (pv 0) (pv 2) (fun _ _ => rfl)) (pa_cons (pe_ix ix_tup (pv 1) (pv 2) (fun _ _ => rfl)) pa_nil)))))
    (pss_one (ps_ret pe_bl))
    pss_nil)))
  (pss_one (ps_ret pe_bl))))
    pss_nil)
  (pss_cons (ps_if (pt_cmpR op_isN (pv 1) pe_non (nomark _))
    (pss_one (ps_ret (pe_cmpR op_isN (pv 0) pe_non (nomark _))))
    pss_nil)
  (pss_cons (ps_if (pt_val (pe_callB call_isi (by rfl) B.isinstance (by decide +kernel) (pa_cons (pv 1) (pa_cons (pe_bltn (v := .ty "bool") (u := .type "bool") (by rfl) B.bool (by decide +kernel) rfl) pa_nil))))
    (pss_one (ps_ret (pe_and (pe_callB call_isi (by rfl) B.isinstance (by decide +kernel) (pa_cons (pv 0) (pa_cons (pe_bltn (v := .ty "bool") (u := .type "bool") (by rfl) B.bool (by decide +kernel) rfl) pa_nil))) (pe_one (pe_cmpR op_eq (pv 0) (pv 1) (nomark _))))))
    pss_nil)
  (pss_cons (ps_if (pt_val (pe_callB call_isi (by rfl) B.isinstance (by decide +kernel) (pa_cons (pv 1) (pa_cons (pe_bltn (v := .ty "int") (u := .type "int") (by rfl) B.int (by decide +kernel) rfl) pa_nil))))
    (pss_one (ps_ret (pe_and (pe_callB call_isi (by rfl) B.isinstance (by decide +kernel) (pa_cons (pv 0) (pa_cons (pe_bltn (v := .ty "int") (u := .type "int") (by rfl) B.int (by decide +kernel) rfl) pa_nil))) (pe_and (pe_not (pe_callB call_isi (by rfl) B.isinstance (by decide +kernel) (pa_cons (pv 0) (pa_cons (pe_bltn (v := .ty "bool") (u := .type "bool") (by rfl) B.bool (by decide +kernel) rfl) pa_nil)))) (pe_one (pe_cmpR op_eq (pv 0) (pv 1) (nomark _)))))))
    pss_nil)
  (pss_one (ps_ret (pe_and (pe_callB call_isi (by rfl) B.isinstance (by decide +kernel) (pa_cons (pv 0) (pa_cons (pe_bltn (v := .ty "str") (u := .type "str") (by rfl) B.str (by decide +kernel) rfl) pa_nil))) (pe_one (pe_cmpR op_eq (pv 0) (pv 1) (nomark _)))))))))), ?_⟩
  have kt : ∀ {a b : String} {r : Bool}, kitB a b = some r → PySem.W.kitOne K (.type a) (.type b) = some r := fun h => h
  cases d with
  | none =>
    cases hx; cases hy
    refine ⟨_, rfl, _, _, _, _, false, rfl, .ty "tuple", .base .non, kt (by decide +kernel), _, rfl, iteF ?_⟩
    exact ⟨_, rfl, rfl, _, rfl, iteT ⟨_, rfl, rfl, q⟩⟩
  | bool b =>
    cases hx; cases hy
    refine ⟨_, rfl, _, _, _, _, false, rfl, .ty "tuple", .base (.bl b), kt (by decide +kernel), _, rfl, iteF ?_⟩
    refine ⟨_, rfl, rfl, _, rfl, iteF ?_⟩
    refine ⟨_, rfl, _, _, _, _, true, rfl, .ty "bool", .base (.bl b), kt (by decide +kernel), _, rfl, iteT ?_⟩
    refine ⟨_, rfl, _, _, _, _, true, rfl, .ty "bool", .base (.bl b), kt (by decide +kernel), _, rfl, iteT ⟨_, rfl, _, rfl, by cases b <;> rfl, ?_⟩⟩
    rw [decide_eq_true rfl]; exact q
  | int i =>
    cases hx; cases hy
    refine ⟨_, rfl, _, _, _, _, false, rfl, .ty "tuple", .base (.int i), kt (by decide +kernel), _, rfl, iteF ?_⟩
    refine ⟨_, rfl, rfl, _, rfl, iteF ?_⟩
    refine ⟨_, rfl, _, _, _, _, false, rfl, .ty "bool", .base (.int i), kt (by decide +kernel), _, rfl, iteF ?_⟩
    refine ⟨_, rfl, _, _, _, _, true, rfl, .ty "int", .base (.int i), kt (by decide +kernel), _, rfl, iteT ?_⟩
    refine ⟨_, rfl, _, _, _, _, true, rfl, .ty "int", .base (.int i), kt (by decide +kernel), _, rfl, iteT ⟨_, rfl, _, _, _, _, false, rfl, .ty "bool", .base (.int i), kt (by decide +kernel), _, rfl, _, rfl, iteT ⟨_, rfl, _, rfl, rfl, ?_⟩⟩⟩
    rw [decide_eq_true rfl]; exact q
  | str z =>
    cases hx; cases hy
    refine ⟨_, rfl, _, _, _, _, false, rfl, .ty "tuple", .base (.str z), kt (by decide +kernel), _, rfl, iteF ?_⟩
    refine ⟨_, rfl, rfl, _, rfl, iteF ?_⟩
    refine ⟨_, rfl, _, _, _, _, false, rfl, .ty "bool", .base (.str z), kt (by decide +kernel), _, rfl, iteF ?_⟩
    refine ⟨_, rfl, _, _, _, _, false, rfl, .ty "int", .base (.str z), kt (by decide +kernel), _, rfl, iteF ?_⟩
    refine ⟨_, rfl, _, _, _, _, true, rfl, .ty "str", .base (.str z), kt (by decide +kernel), _, rfl, iteT ⟨_, rfl, _, rfl, rfl, ?_⟩⟩
    rw [decide_eq_true rfl]; exact q
  | list _ => cases hx
  | dict _ => cases hx
  | tuple ds =>
    obtain ⟨a, xs, rfl, ha, hxs⟩ := hx.tupI
    obtain ⟨b, ys, rfl, hb, hys⟩ := hy.tupI
    have lx := hxs.len
    have ly := hys.len
    have hdep : PyData.depthAll ds + 1 < n + 1 := by
      rw [show PyData.depth (.tuple ds) = PyData.depthAll ds + 1 by simp only [PyData.depth]] at hn
      exact hn
    obtain ⟨hw, hz⟩ := fine_tup hz
    refine ⟨_, rfl, _, _, _, _, true, rfl, .ty "tuple", tyx_tup hb, kt (by decide +kernel), _, rfl, iteT ?_⟩
    refine ⟨_, rfl, _, _, _, _, true, rfl, .ty "tuple", tyx_tup ha, kt (by decide +kernel), _, rfl, iteF ?_⟩
    refine ⟨_, rfl, a, _, rfl, .inr ha, _, rfl, b, _, rfl, .inr hb, rfl, _, rfl, ?_⟩
    refine iteNS (by rw [lx, ly]) ?_
    refine ⟨_, rfl, b, _, rfl, .inr hb, _, rfl, by omega, by omega, for_range (lo := 0) (n := ((ys.length : Int)).toNat) (fun i σ H2 => H2 = H ∧ ∃ v, σ = [some (.ref a), some (.ref b), v]) ⟨rfl, _, rfl⟩ ?_ ?_⟩
    · rintro i σ H2 hi ⟨rfl, v, rfl⟩
      have hil : i < ds.length := by omega
      obtain ⟨x', ex, hx'⟩ := hxs.get (i := i) (d := ds[i]) (List.getElem?_eq_getElem hil)
      obtain ⟨y', ey, hy'⟩ := hys.get (i := i) (d := ds[i]) (List.getElem?_eq_getElem hil)
      have hm := depthAll_mem (List.getElem_mem hil)
      refine ⟨_, rfl, _, rfl, a, _, _, _, rfl, rfl, ha, by rw [Int.zero_add]; exact atI_nat ex, _, rfl, _, rfl, b, _, _, _, rfl, rfl, hb, by rw [Int.zero_add]; exact atI_nat ey, x', y', ds[i], rfl, hx', hy', by omega, hz _ (List.getElem_mem hil), _, rfl, iteF ⟨rfl, _, rfl⟩⟩
    · rintro σ H2 ⟨rfl, v, rfl⟩
      exact q
theorem ok_Lsame (B : Bn mg) (D : Df K mg "_law_same" s_Lsame ["_law_actual", "_law_expected"]) : ∀ n : Nat, Cl CX0 P w K mg base n "_law_same" (sp_Lsame K n)
  | 0 => D.none fun vs H Q E ⟨_, _, d, _, _, _, h, _⟩ => by omega
  | n + 1 => st_Lsame B D (ok_Lsame B D n)
structure TG (K : PySem.W.Frag) (mg : Str → Option Value) (CG : Addr) : Prop where
  cl : Cls K CG
  nP : NoAttr K CG "parts"
  nN : NoAttr K CG "negations"
structure TR (K : PySem.W.Frag) (mg : Str → Option Value) (CR : Addr) : Prop where
  cl : Cls K CR
  nT : NoAttr K CR "text"
  nP : NoAttr K CR "place"
  nG : NoAttr K CR "groups"
  nW : NoAttr K CR "wants"
abbrev N_Group___init__ : List Str := ["self"]
theorem sc_Group___init__ : FnScope N_Group___init__ ["self"] (defScope s_Group___init__) := ⟨rfl, rfl, rfl, by decide +kernel, rfl, by decide +kernel, by decide +kernel⟩
def sp_Gi (K : PySem.W.Frag) (CG : Addr) : Sp := fun vs H Q _ => ∃ (g dx : Addr), vs = [.ref g] ∧ H g = some (.ins CG dx []) ∧ ∀ (l : Addr) (H' : Hp), H l = none → GrpAt K CG H' g l [] 0 → Gx [g] H H' → Q .non H'
theorem ok_Gi {CG : Addr} (T : TG K mg CG) (D : Dm K CG "__init__" "Group.__init__" s_Group___init__ ["self"]) (hmk : PySem.W.makesIn K CG = true) (hkc : PySem.W.keepIn K (.ref CG) = true) (hx : mg "Group" = some (.ref CG)) :
    Mm CX0 P w K mg base 1 "Group" CG (sp_Gi K CG) := by
  refine D.okM hmk hkc hx sc_Group___init__ (fun vs H Q E h => ?_) (fun f cdv A outer s H vs Q E hr h => ?_)
  · obtain ⟨g, dx, rfl, _⟩ := h
    rfl
  obtain ⟨g, dx, rfl, hg, q⟩ := h
  refine ⟨_, (pss_cons (ps_fld (pv 0) (pe_lst pa_nil) rfl)
  (pss_one (ps_fld (pv 0) pe_int rfl))), ?_⟩
  refine ⟨Nat.zero_le _, fun l hl => ?_⟩
  have n1 : g ≠ l := ne_of_none hg hl
  refine ⟨_, rfl, g, CG, dx, [], rfl, by rw [upd_ne n1]; exact hg, T.cl, T.nP, (by show 0 < 1000; decide), ?_⟩
  refine ⟨_, rfl, g, CG, dx, _, rfl, upd_same, T.cl, T.nN, (by show 1 < 1000; decide), ?_⟩
  have g1 : Gx [g] H (upd H l (.lst [])) := Gx.new hl
  have hg1 : (upd H l (.lst [])) g = some (.ins CG dx []) := by rw [upd_ne n1]; exact hg
  have g2 : Gx [g] (upd H l (.lst [])) _ := Gx.set (o := .ins CG dx (putF "parts" (.ref l) [])) hg1 rfl
  have g3 : Gx [g] _ _ := Gx.set (H := upd (upd H l (.lst [])) g (.ins CG dx (putF "parts" (.ref l) []))) (o := .ins CG dx (putF "negations" (.int 0) (putF "parts" (.ref l) []))) upd_same rfl
  refine q l _ hl ⟨⟨dx, upd_same.trans (congrArg (fun z => some (HO.ins CG dx z)) (gf_1 l 0))⟩, [], ?_, .nil⟩ ((g1.trans g2).trans g3)
  exact g3.lst (g2.lst upd_same (by simp [n1.symm])) (by simp [n1.symm])
abbrev N_Group_add : List Str := ["self", "formula", "_"]
theorem sc_Group_add : FnScope N_Group_add ["self", "formula"] (defScope s_Group_add) := ⟨rfl, rfl, rfl, by decide +kernel, rfl, by decide +kernel, by decide +kernel⟩
def sp_Ga (K : PySem.W.Frag) (CG : Addr) : Sp := fun vs H Q _ => ∃ (g l : Addr) (ps : List Fm) (n : Nat) (v : V) (f : Fm), vs = [.ref g, v] ∧ GrpAt K CG H g l ps n ∧ FmV K H v f ∧ n ≤ 100000 ∧ ps.length < 100000 ∧
  ∀ H' : Hp, Gx [g, l] H H' → GrpAt K CG H' g l (ps ++ [negs n f]) 0 → Q .non H'
theorem ok_Ga {CG : Addr} (B : Bn mg) (T : TG K mg CG) (D : Dm K CG "add" "Group.add" s_Group_add ["self", "formula"]) : Ml CX0 P w K mg base 1 CG "add" (sp_Ga K CG) := by
  refine D.ok sc_Group_add (fun vs H Q E h => ?_) (fun f cdv A outer s H vs Q E hr h => ?_)
  · obtain ⟨g, l, ps, n, v, f, rfl, _⟩ := h
    rfl
  obtain ⟨g, l, ps, n, v, f, rfl, ⟨⟨dx, h1⟩, xs, h2, h3⟩, hf, hn, hp, q⟩ := h
  refine ⟨_, (pss_cons (ps_for PassesOwn.never rfl (pi_range1 (by rfl) B.range (pa_cons (pe_fld (pv 0) rfl) pa_nil)) (pg_name (i := 2) sc_Group_add.nd rfl (by first | exact Or.inl rfl | exact Or.inr rfl))
    (pss_one (ps_set (i := 1) sc_Group_add.nd rfl (by first | exact Or.inl rfl | exact Or.inr rfl) (pe_tup (pa_cons pe_str (pa_cons (pv 1) pa_nil))))))
  (pss_cons (ps_fld (pv 0) pe_int rfl)
  (pss_one (ps_expr (pe_bm PySem.F.plainAttrs_list PySem.F.slot_list_append PySem.F.type_list_append mt_append (pe_fld (pv 0) rfl) (pa_cons (pv 1) pa_nil)))))), ?_⟩
  have ngl : g ≠ l := ne_of h1 h2 (fun e => nomatch e)
  have hxs : xs.length = ps.length := by rw [h3.len, List.length_map]
  refine ⟨_, rfl, g, CG, dx, _, _, rfl, h1, T.cl, T.nN, gf_neg _ _, n, rfl, by omega, by omega, for_range (lo := 0) (n := (n : Int).toNat) (fun i σ H2 => ∃ u v3, σ = [some (.ref g), some u, v3] ∧ Gr H H2 ∧ FmV K H2 u (negs i f)) ⟨v, none, rfl, Gx.refl, hf⟩ ?_ ?_⟩
  · rintro i σ H2 hi ⟨u, v3, rfl, g2, hu⟩
    refine ⟨_, rfl, (by show 2 ≤ sizeLine; decide), fun p hp => ?_⟩
    have g3 : Gr H2 (upd H2 p (.tup [.str "not", u])) := Gx.new hp
    refine ⟨_, _, rfl, g2.trans g3, ?_⟩
    rw [negs_succ]
    exact mk_ng (SqT.of upd_same) (g3.dt hu)
  · rintro σ H2 ⟨u, v3, rfl, g2, hu⟩
    rw [Int.toNat_natCast] at hu
    have hg : H2 g = some (.ins CG dx (gf l n)) := gr_some g2 h1 fun ps e => nomatch e
    refine ⟨_, rfl, g, CG, dx, _, rfl, hg, T.cl, T.nN, (by show 2 < 1000; decide), ?_⟩
    have g3 : Gx [g, l] H2 (upd H2 g (.ins CG dx (putF "negations" (.int 0) (gf l n)))) := (Gx.set hg rfl).mono (by simp)
    have e3 : (upd H2 g (.ins CG dx (putF "negations" (.int 0) (gf l n)))) g = some (.ins CG dx (gf l 0)) := upd_same.trans (congrArg (fun z => some (HO.ins CG dx z)) (gf_put l n 0))
    have hl : (upd H2 g (.ins CG dx (putF "negations" (.int 0) (gf l n)))) l = some (.lst xs) := by rw [upd_ne ngl.symm]; exact g2.lst h2 (fun m => nomatch m)
    refine ⟨_, rfl, g, CG, dx, _, _, rfl, e3, T.cl, T.nP, gf_parts _ _, .inl ⟨rfl, _, .inl (.inl hl)⟩, _, rfl, l, xs, _, rfl, rfl, hl, szlt (m := 100000) (by omega) (by omega), ?_⟩
    have g4 : Gx [g, l] (upd H2 g (.ins CG dx (putF "negations" (.int 0) (gf l n)))) _ := (Gx.set (o := .lst (xs ++ [u])) hl rfl).mono (by simp)
    refine q _ (((g2.mono (fun a m => nomatch m)).trans g3).trans g4) ⟨⟨dx, by rw [upd_ne ngl]; exact e3⟩, xs ++ [u], upd_same, ?_⟩
    rw [List.map_append]
    exact DtAll.app (g4.dts (g3.dts (g2.dts h3))) (.cons (g4.dt (g3.dt hu)) .nil)
theorem grpF_cons {f : Fm} {r : List Fm} (h : r ≠ []) : grpF (f :: r) = .im f (grpF r) := by
  cases r with
  | nil => exact absurd rfl h
  | cons x r => rfl
abbrev N_Group_formula : List Str := ["self", "formula", "part"]
theorem sc_Group_formula : FnScope N_Group_formula ["self"] (defScope s_Group_formula) := ⟨rfl, rfl, rfl, by decide +kernel, rfl, by decide +kernel, by decide +kernel⟩
def sp_Gf (K : PySem.W.Frag) (CG : Addr) : Sp := fun vs H Q _ => ∃ (g l : Addr) (ps : List Fm) (n : Nat), vs = [.ref g] ∧ GrpAt K CG H g l ps n ∧ ps ≠ [] ∧
  ∀ (v : V) (H' : Hp), Gr H H' → FmV K H' v (grpF ps) → Q v H'
theorem ok_Gf {CG : Addr} (T : TG K mg CG) (D : Dm K CG "formula" "Group.formula" s_Group_formula ["self"]) : Ml CX0 P w K mg base 1 CG "formula" (sp_Gf K CG) := by
  refine D.ok sc_Group_formula (fun vs H Q E h => ?_) (fun f cdv A outer s H vs Q E hr h => ?_)
  · obtain ⟨g, l, ps, n, rfl, _⟩ := h
    rfl
  obtain ⟨g, l, ps, n, rfl, ⟨⟨dx, h1⟩, xs, h2, h3⟩, hne, q⟩ := h
  refine ⟨_, (pss_cons (ps_set (i := 1) sc_Group_formula.nd rfl (by first | exact Or.inl rfl | exact Or.inr rfl) (pe_ix ix_list (pe_fld (pv 0) rfl) (pe_un un_neg pe_int) (fun _ _ => rfl)))
  (pss_cons (ps_for PassesOwn.never rfl (pi_list (pe_backL (pe_fld (pv 0) rfl))) (pg_name (i := 2) sc_Group_formula.nd rfl (by first | exact Or.inl rfl | exact Or.inr rfl))
    (pss_one (ps_set (i := 1) sc_Group_formula.nd rfl (by first | exact Or.inl rfl | exact Or.inr rfl) (pe_tup (pa_cons pe_str (pa_cons (pv 2) (pa_cons (pv 1) pa_nil)))))))
  (pss_one (ps_ret (pv 1))))), ?_⟩
  have hxs : xs.length = ps.length := by rw [h3.len, List.length_map]
  have pos : 0 < ps.length := List.length_pos_iff.mpr hne
  obtain ⟨x, ex, hx⟩ := h3.get (i := ps.length - 1) (d := (ps[ps.length - 1]'(by omega)).d) (by rw [List.getElem?_map, List.getElem?_eq_getElem (by omega)]; rfl)
  have elast : atI xs (-1) = some x := by
    have e : xs = xs.dropLast ++ [x] := by
      rw [← hxs] at ex
      have hn : xs ≠ [] := fun e => by rw [e] at hxs; rw [← hxs] at pos; exact absurd pos (by decide)
      have := List.dropLast_concat_getLast hn
      rw [List.getLast_eq_getElem, (List.getElem?_eq_some_iff.mp ex).2] at this
      exact this.symm
    rw [e]; exact atI_last _ _
  refine ⟨_, rfl, g, CG, dx, _, _, rfl, h1, T.cl, T.nP, gf_parts _ _, _, rfl, l, _, _, _, rfl, rfl, SqL.of h2, elast, ?_⟩
  refine ⟨_, rfl, g, CG, dx, _, _, rfl, h1, T.cl, T.nP, gf_parts _ _, l, xs, rfl, SqL.of h2, fun b hb => ?_⟩
  generalize z1 : upd H b _ = H1
  obtain ⟨g1, e1⟩ := hA_gr z1 hb
  have hlen : xs.dropLast.reverse.length = ps.length - 1 := by rw [List.length_reverse, List.length_dropLast, hxs]
  refine ⟨b, rfl, ⟨_, SqL.of e1⟩, for_list (K := K) (a := b) (xs := xs.dropLast.reverse) (fun i σ H2 => ∃ u v3, σ = [some (.ref g), some u, v3] ∧ Gr H1 H2 ∧ i ≤ ps.length - 1 ∧ FmV K H2 u (grpF (ps.drop (ps.length - 1 - i)))) ⟨x, none, rfl, Gx.refl, Nat.zero_le _, ?_⟩
    (fun i σ H2 _ ⟨_, _, _, g2, _⟩ => SqL.of (g2.lst e1 (fun m => nomatch m))) ?_ ?_⟩
  · have e : ps.drop (ps.length - 1 - 0) = [ps[ps.length - 1]'(by omega)] := by
      rw [Nat.sub_zero, List.drop_eq_getElem_cons (by omega), List.drop_eq_nil_of_le (by omega)]
    rw [e]; exact g1.dt hx
  · rintro i y σ H2 hi ⟨u, v3, rfl, g2, hi2, hu⟩
    have hil : i < ps.length - 1 := by rw [← hlen]; exact (List.getElem?_eq_some_iff.mp hi).1
    have hj : ps.length - 1 - (i + 1) < ps.length := by omega
    obtain ⟨y', ey, hy⟩ := h3.get (i := ps.length - 1 - (i + 1)) (d := (ps[ps.length - 1 - (i + 1)]).d) (by rw [List.getElem?_map, List.getElem?_eq_getElem hj]; rfl)
    have eyy : y' = y := by
      rw [List.getElem?_reverse (by rw [List.length_dropLast]; omega), List.getElem?_dropLast, List.length_dropLast, if_pos (by omega), hxs, show ps.length - 1 - 1 - i = ps.length - 1 - (i + 1) by omega, ey] at hi
      exact Option.some.inj hi
    subst eyy
    refine ⟨_, rfl, _, rfl, (by show 3 ≤ sizeLine; decide), fun p hp => ?_⟩
    have g3 : Gr H2 (upd H2 p (.tup [.str "if", y', u])) := Gx.new hp
    refine ⟨_, _, rfl, g2.trans g3, by omega, ?_⟩
    have e : ps.drop (ps.length - 1 - (i + 1)) = ps[ps.length - 1 - (i + 1)] :: ps.drop (ps.length - 1 - i) := by
      rw [List.drop_eq_getElem_cons hj, show ps.length - 1 - (i + 1) + 1 = ps.length - 1 - i by omega]
    rw [e, grpF_cons (fun e => by have := congrArg List.length e; rw [List.length_drop, List.length_nil] at this; omega)]
    exact mk_im (SqT.of upd_same) (g3.dt (g2.dt (g1.dt hy))) (g3.dt hu)
  · rintro σ H2 ⟨u, v3, rfl, g2, _, hu⟩
    rw [hlen, show ps.length - 1 - (ps.length - 1) = 0 by omega, List.drop_zero] at hu
    exact ⟨_, rfl, q u H2 (g1.trans g2) hu⟩
abbrev N_Reader___init__ : List Str := ["self", "text"]
theorem sc_Reader___init__ : FnScope N_Reader___init__ ["self", "text"] (defScope s_Reader___init__) := ⟨rfl, rfl, rfl, by decide +kernel, rfl, by decide +kernel, by decide +kernel⟩
def sp_Ri (K : PySem.W.Frag) (CG CR : Addr) : Sp := fun vs H Q _ => ∃ (r dx : Addr) (t : List Nat) (H0 : Hp), vs = [.ref r, .str (SX.S t)] ∧ H r = some (.ins CR dx []) ∧ Gr H0 H ∧ H0 r = none ∧
  ∀ H' : Hp, RdAt K CG CR H0 H' r t ⟨0, [([], 0)], true⟩ → Q .non H'
theorem ok_Ri {CG CR : Addr} (T : TR K mg CR) (D : Dm K CR "__init__" "Reader.__init__" s_Reader___init__ ["self", "text"]) (hmk : PySem.W.makesIn K CR = true) (hkc : PySem.W.keepIn K (.ref CR) = true) (hx : mg "Reader" = some (.ref CR))
    (c_Group : Mm CX0 P w K mg base 1 "Group" CG (sp_Gi K CG)) : Mm CX0 P w K mg base 3 "Reader" CR (sp_Ri K CG CR) := by
  refine D.okM hmk hkc hx sc_Reader___init__ (fun vs H Q E h => ?_) (fun f cdv A outer s H vs Q E hr h => ?_)
  · obtain ⟨r, dx, t, H0, rfl, _⟩ := h
    rfl
  obtain ⟨r, dx, t, H0, rfl, hR, g0, r0, q⟩ := h
  refine ⟨_, (pss_cons (ps_fld (pv 0) (pv 1) rfl)
  (pss_cons (ps_fld (pv 0) pe_int rfl)
  (pss_cons (ps_fld (pv 0) (pe_lst (pa_cons (pk0 c_Group hr (by omega) rfl ps0) pa_nil)) rfl)
  (pss_one (ps_fld (pv 0) pe_bl rfl))))), ?_⟩
  refine ⟨_, rfl, _, rfl, r, CR, dx, [], rfl, hR, T.cl, T.nT, (by show 0 < 1000; decide), ?_⟩
  refine ⟨_, rfl, r, CR, dx, _, rfl, upd_same, T.cl, T.nP, (by show 1 < 1000; decide), ?_⟩
  rw [upd_upd, rf_1, show putF "place" (V.int 0) [(("text" : Str), V.str (SX.S t))] = [(("text" : Str), V.str (SX.S t)), ("place", .int ((0 : Nat) : Int))] from rf_2 t 0]
  have g1 : Gx [r] H (upd H r (.ins CR dx [(("text" : Str), V.str (SX.S t)), ("place", .int ((0 : Nat) : Int))])) := Gx.set hR rfl
  have e1 : (upd H r (.ins CR dx [(("text" : Str), V.str (SX.S t)), ("place", .int ((0 : Nat) : Int))])) r = _ := upd_same
  generalize upd H r (.ins CR dx [(("text" : Str), V.str (SX.S t)), ("place", .int ((0 : Nat) : Int))]) = H1 at g1 e1
  refine fun g dg hg hdg ne => ?_
  refine ⟨g, dg, rfl, upd_same, fun l H2 hl G g2 => ⟨rfl, ?_⟩⟩
  have gm := gr_made (C := CG) hg hdg ne
  have g3 : Gr H1 H2 := gm.drop g2 (fun a m => by rw [List.mem_singleton.mp m]; exact .inr hg)
  have hl1 : H1 l = none := gm.dom _ hl
  obtain ⟨⟨dy, h1⟩, xs, h2, h3⟩ := id G
  have e2 : H2 r = some (.ins CR dx [(("text" : Str), V.str (SX.S t)), ("place", .int ((0 : Nat) : Int))]) := gr_some g3 e1 fun ps e => nomatch e
  refine ⟨(by show 1 ≤ sizeLine; decide), fun gl hgl => ?_⟩
  have n1 : r ≠ gl := ne_of_none e2 hgl
  have n2 : g ≠ gl := ne_of_none h1 hgl
  have n3 : l ≠ gl := ne_of_none h2 hgl
  have n4 : r ≠ g := ne_of_none e1 hg
  have n5 : r ≠ l := ne_of e2 h2 (fun e => nomatch e)
  have g4 : Gr H2 (upd H2 gl (.lst [.ref g])) := Gx.new hgl
  have e3 : (upd H2 gl (.lst [.ref g])) r = some (.ins CR dx [(("text" : Str), V.str (SX.S t)), ("place", .int ((0 : Nat) : Int))]) := by rw [upd_ne n1]; exact e2
  refine ⟨_, rfl, r, CR, dx, _, rfl, e3, T.cl, T.nG, (by show 2 < 1000; decide), ?_⟩
  refine ⟨_, rfl, r, CR, dx, _, rfl, upd_same, T.cl, T.nW, ?_, ?_⟩
  · rw [rf_3]; show 3 < 1000; decide
  rw [upd_upd, rf_3, rf_4]
  have g5 : Gx [r] (upd H2 gl (.lst [.ref g])) (upd (upd H2 gl (.lst [.ref g])) r (.ins CR dx (rf t 0 gl true))) := Gx.set e3 rfl
  have ga : Gr H0 (upd (upd H2 gl (.lst [.ref g])) r (.ins CR dx (rf t 0 gl true))) := (((g0.drop g1 (fun a m => by rw [List.mem_singleton.mp m]; exact .inr r0)).trans g3).trans g4).drop g5 (fun a m => by rw [List.mem_singleton.mp m]; exact .inr r0)
  have gb : Gr H0 H1 := g0.drop g1 (fun a m => by rw [List.mem_singleton.mp m]; exact .inr r0)
  refine q _ ⟨dx, gl, [(g, l)], ga, upd_same, ?_, .cons ((G.gx g4 (fun m => nomatch m) (fun m => nomatch m)).gx g5 (by simp [n4.symm]) (by simp [n5.symm])) .nil, by simp, by simp [n3.symm], r0, gb.dom _ (g3.dom _ hgl), fun a ha => ?_⟩
  · rw [upd_ne n1.symm]; exact upd_same
  · rw [List.mem_singleton.mp ha]
    exact ⟨gb.dom _ hg, gb.dom _ hl1⟩
abbrev N_Reader_start : List Str := ["self", "sign", "digit", "name"]
theorem sc_Reader_start : FnScope N_Reader_start ["self", "sign"] (defScope s_Reader_start) := ⟨rfl, rfl, rfl, by decide +kernel, rfl, by decide +kernel, by decide +kernel⟩
def sp_Rs (K : PySem.W.Frag) (CG CR : Addr) : Sp := fun vs H Q _ => ∃ (r : Addr) (c : Nat) (t : List Nat) (s s' : RS) (H0 : Hp), vs = [.ref r, .str ⟨#[c]⟩] ∧ RdAt K CG CR H0 H r t s ∧ Bd s ∧ t[s.p]? = some c ∧ t.length ≤ 90000 ∧ startS t s c = some s' ∧
  s.wants = true ∧ ∀ H' : Hp, RdAt K CG CR H0 H' r t s' → Q .non H'
theorem ok_Rs {CG CR : Addr} (B : Bn mg) (TG : TG K mg CG) (T : TR K mg CR) (D : Dm K CR "start" "Reader.start" s_Reader_start ["self", "sign"])
    (c_Group : Mm CX0 P w K mg base 1 "Group" CG (sp_Gi K CG)) (c_add : Ml CX0 P w K mg base 1 CG "add" (sp_Ga K CG)) : Ml CX0 P w K mg base 3 CR "start" (sp_Rs K CG CR) := by
  refine D.ok sc_Reader_start (fun vs H Q E h => ?_) (fun f cdv A outer s H vs Q E hr h => ?_)
  · obtain ⟨r, c, t, s, s', H0, rfl, _⟩ := h
    rfl
  obtain ⟨r, c, t, ⟨p, gs, wa⟩, s', H0, rfl, ⟨dx, gl, as, R⟩, hB, hc, ht, hs, hw, q⟩ := h
  refine ⟨_, (C8.pss_cut (ps_if (pt_cmpR op_eq (pv 1) pe_str (nomark _))
    (pss_one (ps_fldaug (pe_ix ix_list (pe_fld (pv 0) rfl) (pe_un un_neg pe_int) (fun _ _ => rfl)) pe_int in_add))
    (pss_one (ps_if (pt_cmpR op_eq (pv 1) pe_str (nomark _))
    (pss_one (ps_expr (pe_bm PySem.F.plainAttrs_list PySem.F.slot_list_append PySem.F.type_list_append mt_append (pe_fld (pv 0) rfl) (pa_cons (pk0 c_Group hr (by omega) rfl ps0) pa_nil))))
    (pss_one (ps_if (pt_cmpR op_in_sign (pv 1) (pgc rfl B.g_SMALL) rfl)
    (pss_cons (ps_set (i := 2) sc_Reader_start.nd rfl (by first | exact Or.inl rfl | exact Or.inr rfl) (pe_slice sl_str (pe_fld (pv 0) rfl) (po_some (pe_op op_add (pe_fld (pv 0) rfl) pe_int)) (po_some (pe_op op_add (pe_fld (pv 0) rfl) pe_int))))
  (pss_cons (ps_set (i := 3) sc_Reader_start.nd rfl (by first | exact Or.inl rfl | exact Or.inr rfl) (pe_ifExp (PW.pt (pw_and (pt_truth (pv 2) (by intro _; rfl)) (pw_and1 (pt_cmpR op_in_sign (pv 2) (pgc rfl B.g_DIGITS) rfl)))) (pe_op op_add_str (pv 1) (pv 2)) (pv 1)))
  (pss_cons (ps_expr (pm TG.cl c_add hr (by omega) ps0 (pe_ix ix_list (pe_fld (pv 0) rfl) (pe_un un_neg pe_int) (fun _ _ => rfl)) (pa_cons (pe_tup (pa_cons pe_str (pa_cons (pv 3) pa_nil))) pa_nil)))
  (pss_cons (ps_fldaug (pv 0) (pe_op op_sub (pe_callB call_len_str (by rfl) B.len PySem.boot_len (pa_cons (pv 3) pa_nil)) pe_int) in_add)
  (pss_one (ps_fld (pv 0) pe_bl rfl))))))
    (pss_one ps_never))))))
  (pss_one (ps_fldaug (pv 0) pe_int in_add))), ?_⟩
  have hw : wa = true := hw
  subst hw
  have hpl : p < t.length := (List.getElem?_eq_some_iff.mp hc).1
  obtain ⟨⟨ps, n⟩, gs, rfl⟩ : ∃ g r, gs = g :: r := by
    cases gs with
    | nil => exact absurd rfl hB.ne
    | cons g r => exact ⟨g, r, rfl⟩
  obtain ⟨bn1, bn2⟩ := hB.n (ps, n) List.mem_cons_self
  have hal := R.al
  obtain ⟨a, as, rfl⟩ : ∃ a r, as = a :: r := by
    cases hal with
    | cons _ _ => exact ⟨_, _, rfl⟩
  refine ⟨fun σ' H' => ∃ v2 v3 p' gs' w', σ' = [some (.ref r), some (.str ⟨#[c]⟩), v2, v3] ∧ RdAt K CG CR H0 H' r t ⟨p', gs', w'⟩ ∧ s' = ⟨p' + 1, gs', w'⟩, ?_, ?_⟩
  · refine ⟨_, rfl, rfl, _, rfl, ?_⟩
    rw [z_tl, one_eq]
    unfold startS at hs
    by_cases h1 : c = 126
    · rw [if_pos h1] at hs
      cases hs
      rw [decide_eq_true h1]
      refine iteT ?_
      have hG := R.al
      cases hG with
      | cons G _ =>
        obtain ⟨⟨dy, e1⟩, xs, e2, e3⟩ := id G
        refine ⟨_, rfl, r, CR, dx, _, _, rfl, R.ob, T.cl, T.nG, rf_groups _ _ _ _, _, rfl, gl, _, _, _, rfl, rfl, SqL.of R.gs, top_at, a.1, CG, dy, _, _, rfl, e1, TG.cl, TG.nN, gf_neg _ _, n, 1, rfl, rfl, dy, _, e1, (by show 2 < 1000; decide), ?_⟩
        rw [show putF "negations" (V.int ((n : Int) + 1)) (gf a.2 n) = gf a.2 (n + 1) from gf_put a.2 n (n + 1)]
        have g1 : Gx [a.1, a.2] H (upd H a.1 (.ins CG dy (gf a.2 (n + 1)))) := (Gx.set e1 rfl).mono (by simp)
        have nal : a.2 ≠ a.1 := ne_of e2 e1 (fun e => nomatch e)
        exact ⟨none, none, p, _, true, rfl, ⟨dx, gl, a :: as, R.setTop (g' := (ps, n + 1)) g1 ⟨⟨dy, upd_same⟩, xs, by rw [upd_ne nal]; exact e2, g1.dts e3⟩⟩, rfl⟩
    · rw [if_neg h1] at hs
      rw [decide_eq_false h1]
      refine iteF ?_
      refine ⟨_, rfl, rfl, _, rfl, ?_⟩
      rw [z_pl, one_eq]
      by_cases h2 : c = 40
      · rw [if_pos h2] at hs
        cases hs
        rw [decide_eq_true h2]
        refine iteT ?_
        refine ⟨_, rfl, r, CR, dx, _, _, rfl, R.ob, T.cl, T.nG, rf_groups _ _ _ _, .inl ⟨rfl, _, .inl (.inl R.gs)⟩, fun g dg hg hdg ne => ?_⟩
        refine ⟨g, dg, rfl, upd_same, fun l H2 hl G g2 => ⟨rfl, ?_⟩⟩
        have gm := gr_made (C := CG) hg hdg ne
        have g3 : Gr H H2 := gm.drop g2 (fun a m => by rw [List.mem_singleton.mp m]; exact .inr hg)
        have hl1 : H l = none := gm.dom _ hl
        have R2 := R.grow g3
        have x2 : ∀ b ∈ a :: as, g ≠ b.1 ∧ l ≠ b.2 := fun b hb => by
          obtain ⟨gg, _, ⟨dy, e1⟩, xs, e2, _⟩ := paired_mem R.al hb
          exact ⟨(ne_of_none e1 hg).symm, (ne_of_none e2 hl1).symm⟩
        have hlen := R.al
        have aslen : (a :: as).length = ((ps, n) :: gs).length := Paired.length R.al
        refine ⟨gl, _, _, rfl, rfl, R2.gs, ?_, ?_⟩
        · rw [List.length_reverse, List.length_map, aslen]
          have := hB.m
          exact szlt (m := 90001) (Nat.le_trans this (by show p + 1 ≤ 90001; omega)) (by omega)
        · exact ⟨none, none, p, _, true, rfl, ⟨dx, gl, (g, l) :: a :: as, R2.push G (R.gr.dom _ hg) (R.gr.dom _ hl1) x2 (ne_of_none R.gs hl1)⟩, rfl⟩
      · rw [if_neg h2] at hs
        rw [decide_eq_false h2]
        refine iteF ?_
        refine ⟨_, rfl, c, _, rfl, rfl, _, rfl, ?_⟩
        rw [in_small]
        by_cases h3 : small c = true
        · rw [if_pos h3] at hs
          cases hs
          rw [h3]
          refine iteT ?_
          have nm := nameAt_pos t p c
          refine ⟨_, rfl, r, CR, dx, _, _, rfl, R.ob, T.cl, T.nT, rf_text _ _ _ _, _, rfl, r, CR, dx, _, _, rfl, R.ob, T.cl, T.nP, rf_place _ _ _ _, p, 1, rfl, rfl, _, rfl,
            _, rfl, r, CR, dx, _, _, rfl, R.ob, T.cl, T.nP, rf_place _ _ _ _, p, 2, rfl, rfl, _, rfl, _, rfl, by rw [SX.S_len]; exact szle ht (by omega), ?_⟩
          rw [cut_one]
          -- name = sign + digit if digit and digit in DIGITS else sign
          have key : ∀ Q' : VK, Q' (.str (SX.S (nameAt t p c))) H → (tIf (tAnd (fun σ H Q => tVar 2 σ H fun x H1 => ∃ k, TruV K x H1 k ∧ Q k H1) (tTest (tOp (fun x y H Q => ∃ (c : Nat) (z : Str), x = .str ⟨#[c]⟩ ∧ y = .str z ∧ Q (.bl (decide (c ∈ z.cps.toList))) H) (tVar 2) (tC (.str "0123456789"))))) (tOp (fun x y H Q => ∃ i j, x = .str i ∧ y = .str j ∧ i.length + j.length ≤ sizeLine ∧ Q (.str (i ++ j)) H) (tVar 1) (tVar 2)) (tVar 1))
              [some (.ref r), some (.str ⟨#[c]⟩), some (.str (SX.S (match t[p + 1]? with | some d => [d] | none => []))), none] H Q' := by
            intro Q' q'
            cases hd : t[p + 1]? with
            | none =>
              have en : nameAt t p c = [c] := by unfold nameAt; rw [hd]
              rw [en] at q'
              exact ⟨_, rfl, false, ⟨by decide, rfl⟩, iteF (iteF ⟨_, rfl, q'⟩)⟩
            | some d =>
              refine ⟨_, rfl, true, ⟨by show 1 ≤ sizeLine; decide, rfl⟩, iteT ⟨_, rfl, d, _, rfl, rfl, _, rfl, ?_⟩⟩
              rw [in_digit]
              cases hdd : digit d with
              | true =>
                have en : nameAt t p c = [c, d] := by unfold nameAt; rw [hd]; show (if digit d = true then [c, d] else [c]) = _; rw [hdd]; rfl
                rw [en] at q'
                exact iteT ⟨_, rfl, _, rfl, _, _, rfl, rfl, by show 2 ≤ sizeLine; decide, by rw [show (⟨#[c]⟩ : Str) = SX.S [c] from rfl, SX.S_cat]; exact q'⟩
              | false =>
                have en : nameAt t p c = [c] := by unfold nameAt; rw [hd]; show (if digit d = true then [c, d] else [c]) = _; rw [hdd]; rfl
                rw [en] at q'
                exact iteF ⟨_, rfl, q'⟩
          refine key _ ?_
          have hG := R.al
          cases hG with
          | cons G _ =>
            refine ⟨_, rfl, r, CR, dx, _, _, rfl, R.ob, T.cl, T.nG, rf_groups _ _ _ _, _, rfl, gl, _, _, _, rfl, rfl, SqL.of R.gs, top_at, ?_⟩
            obtain ⟨⟨dy, e1⟩, xs, e2, e3⟩ := id G
            refine ⟨a.1, dy, _, rfl, e1, gf_no _ _ (by decide +kernel) (by decide +kernel), _, rfl, (by show 2 ≤ sizeLine; decide), fun x hx => ?_⟩
            have g1 : Gr H (upd H x (.tup [.str "letter", .str (SX.S (nameAt t p c))])) := Gx.new hx
            refine ⟨a.1, a.2, ps, n, _, .lt (SX.S (nameAt t p c)), rfl, G.gx g1 (fun m => nomatch m) (fun m => nomatch m), mk_lt (SqT.of upd_same), by have : n ≤ p := bn2; omega, by have : ps.length ≤ p := bn1; omega, fun H2 g2 G2 => ?_⟩
            have R2 := (R.grow g1).setTop (g' := (ps ++ [negs n (.lt (SX.S (nameAt t p c)))], 0)) g2 G2
            refine ⟨_, rfl, r, CR, dx, _, _, rfl, R2.ob, T.cl, T.nP, rf_place _ _ _ _, ?_⟩
            refine ⟨_, rfl, _, rfl, by rw [SX.S_len]; exact szle nm.2 (by omega), _, _, rfl, rfl, p, _, rfl, rfl, dx, _, R2.ob, (by show 4 < 1000; decide), ?_⟩
            have R3 := R2.inc ((nameAt t p c).length - 1) (z := (p : Int) + (((SX.S (nameAt t p c)).length : Int) - 1)) (by rw [SX.S_len]; show _ = ((p + ((nameAt t p c).length - 1) : Nat) : Int); omega)
            refine ⟨_, rfl, r, CR, dx, _, rfl, R3.ob, T.cl, T.nW, (by show 4 < 1000; decide), ?_⟩
            refine ⟨_, _, p + ((nameAt t p c).length - 1), _, false, rfl, ⟨dx, gl, _, R3.setW false⟩, ?_⟩
            show RS.mk _ _ _ = RS.mk _ _ _
            rw [show p + ((nameAt t p c).length - 1) + 1 = p + (nameAt t p c).length by omega]
            rfl
        · rw [if_neg h3] at hs; cases hs
  · rintro σ' H' ⟨v2, v3, p', gs', w', rfl, ⟨dx', gl', as', R'⟩, rfl⟩
    refine ⟨_, rfl, r, CR, dx', _, _, rfl, R'.ob, T.cl, T.nP, rf_place _ _ _ _, p', 1, rfl, rfl, dx', _, R'.ob, (by show 4 < 1000; decide), ?_⟩
    exact q _ ⟨dx', gl', as', R'.inc 1 rfl⟩
abbrev N_Reader_go_on : List Str := ["self", "sign", "formula"]
theorem sc_Reader_go_on : FnScope N_Reader_go_on ["self", "sign"] (defScope s_Reader_go_on) := ⟨rfl, rfl, rfl, by decide +kernel, rfl, by decide +kernel, by decide +kernel⟩
def sp_Rg (K : PySem.W.Frag) (CG CR : Addr) : Sp := fun vs H Q _ => ∃ (r : Addr) (c : Nat) (t : List Nat) (s s' : RS) (H0 : Hp), vs = [.ref r, .str ⟨#[c]⟩] ∧ RdAt K CG CR H0 H r t s ∧ Bd s ∧ t[s.p]? = some c ∧ t.length ≤ 90000 ∧ goS t s c = some s' ∧
  s.wants = false ∧ ∀ H' : Hp, RdAt K CG CR H0 H' r t s' → Q .non H'
theorem ok_Rg {CG CR : Addr} (B : Bn mg) (TG : TG K mg CG) (T : TR K mg CR) (D : Dm K CR "go_on" "Reader.go_on" s_Reader_go_on ["self", "sign"])
    (c_formula : Ml CX0 P w K mg base 1 CG "formula" (sp_Gf K CG)) (c_add : Ml CX0 P w K mg base 1 CG "add" (sp_Ga K CG)) : Ml CX0 P w K mg base 3 CR "go_on" (sp_Rg K CG CR) := by
  refine D.ok sc_Reader_go_on (fun vs H Q E h => ?_) (fun f cdv A outer s H vs Q E hr h => ?_)
  · obtain ⟨r, c, t, s, s', H0, rfl, _⟩ := h
    rfl
  obtain ⟨r, c, t, ⟨p, gs, wa⟩, s', H0, rfl, ⟨dx, gl, as, R⟩, hB, hc, ht, hs, hw, q⟩ := h
  refine ⟨_, (pss_cons (ps_if (PW.pt (pw_and (pt_cmpR op_eq (pv 1) pe_str (nomark _)) (pw_and1 (pt_cmpR op_eq (pe_op op_add (pe_fld (pv 0) rfl) pe_int) (pe_callB call_len_str (by rfl) B.len PySem.boot_len (pa_cons (pe_fld (pv 0) rfl) pa_nil)) (nomark _)))))
    (pss_one ps_never)
    pss_nil)
  (pss_one (ps_if (PW.pt (pw_and (pt_cmpR op_eq (pv 1) pe_str (nomark _)) (pw_and1 (pt_cmpR op_eq (pe_ix ix_str (pe_fld (pv 0) rfl) (pe_op op_add (pe_fld (pv 0) rfl) pe_int) (fun _ _ => rfl)) pe_str (nomark _)))))
    (pss_cons (ps_fld (pv 0) pe_bl rfl)
  (pss_one (ps_fldaug (pv 0) pe_int in_add)))
    (pss_one (ps_if (PW.pt (pw_and (pt_cmpR op_eq (pv 1) pe_str (nomark _)) (pw_and1 (pt_cmpR op_gt (pe_callB call_len_seq (by rfl) B.len PySem.boot_len (pa_cons (pe_fld (pv 0) rfl) pa_nil)) pe_int (nomark _)))))
    (pss_cons (ps_set (i := 2) sc_Reader_go_on.nd rfl (by first | exact Or.inl rfl | exact Or.inr rfl) (pm0 TG.cl c_formula hr (by omega) ps0 (pe_bm0 PySem.F.plainAttrs_list PySem.F.slot_list_pop PySem.F.type_list_pop mt_pop (pe_fld (pv 0) rfl))))
  (pss_cons (ps_expr (pm TG.cl c_add hr (by omega) ps0 (pe_ix ix_list (pe_fld (pv 0) rfl) (pe_un un_neg pe_int) (fun _ _ => rfl)) (pa_cons (pv 2) pa_nil)))
  (pss_one (ps_fldaug (pv 0) pe_int in_add))))
    (pss_one ps_never)))))), ?_⟩
  have hw : wa = false := hw
  subst hw
  have hpl : p < t.length := (List.getElem?_eq_some_iff.mp hc).1
  refine ⟨_, rfl, rfl, _, rfl, ?_⟩
  rw [z_mi, one_eq]
  unfold goS at hs
  by_cases h1 : c = 45
  · rw [if_pos h1] at hs
    have h62 : t[p + 1]? = some 62 := by
      by_cases e : t[p + 1]? = some 62
      · exact e
      · rw [if_neg e] at hs; cases hs
    rw [if_pos h62] at hs
    cases hs
    have hl2 : p + 1 < t.length := (List.getElem?_eq_some_iff.mp h62).1
    rw [decide_eq_true h1]
    refine iteT ⟨_, rfl, r, CR, dx, _, _, rfl, R.ob, T.cl, T.nP, rf_place _ _ _ _, p, 1, rfl, rfl, _, rfl, r, CR, dx, _, _, rfl, R.ob, T.cl, T.nT, rf_text _ _ _ _, _, rfl, by rw [SX.S_len]; exact szle ht (by omega), rfl, _, rfl, ?_⟩
    rw [SX.S_len, decide_eq_false (fun e : V.int ((p : Int) + 1) = V.int (t.length : Int) => by injection e with e; omega)]
    refine iteF ?_
    refine ⟨_, rfl, rfl, _, rfl, ?_⟩
    rw [one_eq, decide_eq_true h1]
    refine iteT ⟨_, rfl, r, CR, dx, _, _, rfl, R.ob, T.cl, T.nT, rf_text _ _ _ _, _, rfl, r, CR, dx, _, _, rfl, R.ob, T.cl, T.nP, rf_place _ _ _ _, p, 1, rfl, rfl, _, _, 62, rfl, rfl, by rw [SX.S_len]; exact szle ht (by omega), atI_nat (j := p + 1) h62, rfl, _, rfl, ?_⟩
    rw [z_gt, one_eq, decide_eq_true rfl]
    refine iteT ?_
    refine ⟨_, rfl, r, CR, dx, _, rfl, R.ob, T.cl, T.nW, (by show 4 < 1000; decide), ?_⟩
    have R2 := R.setW true
    refine ⟨_, rfl, r, CR, dx, _, _, rfl, R2.ob, T.cl, T.nP, rf_place _ _ _ _, p, 2, rfl, rfl, dx, _, R2.ob, (by show 4 < 1000; decide), ?_⟩
    exact q _ ⟨dx, gl, as, R2.inc 2 rfl⟩
  · rw [if_neg h1] at hs
    rw [decide_eq_false h1]
    refine iteF (iteF ?_)
    refine ⟨_, rfl, rfl, _, rfl, ?_⟩
    rw [one_eq, decide_eq_false h1]
    refine iteF (iteF ?_)
    by_cases h2 : c = 41
    · rw [if_pos h2] at hs
      refine ⟨_, rfl, rfl, _, rfl, ?_⟩
      rw [z_pr, one_eq, decide_eq_true h2]
      split at hs
      · rename_i g g2 gs' hg
        have hg : gs = g :: g2 :: gs' := hg
        subst hg
        cases hs
        have hal := R.al
        obtain ⟨a, a2, as, rfl⟩ : ∃ a a2 as', as = a :: a2 :: as' := by
          cases hal with
          | cons _ q1 =>
            cases q1 with
            | cons _ _ => exact ⟨_, _, _, rfl⟩
        have ln : (1 : Int) < (((a :: a2 :: as).map fun x => V.ref x.1).reverse.length : Int) := by
          rw [List.length_reverse, List.length_map, List.length_cons, List.length_cons]; omega
        refine iteT ⟨_, rfl, r, CR, dx, _, _, rfl, R.ob, T.cl, T.nG, rf_groups _ _ _ _, gl, _, rfl, .inl (SqL.of R.gs), _, _, rfl, rfl, _, rfl, ?_⟩
        rw [decide_eq_true ln]
        refine iteT ?_
        have hpop : (((a :: a2 :: as).map fun x => V.ref x.1).reverse)[(((a :: a2 :: as).map fun x => V.ref x.1).reverse).length - 1]? = some (.ref a.1) := by
          rw [List.map_cons, List.reverse_cons, List.length_append, List.length_singleton, Nat.add_sub_cancel, List.getElem?_append_right (Nat.le_refl _), Nat.sub_self]; rfl
        obtain ⟨R2, G⟩ := R.pop
        refine ⟨_, rfl, r, CR, dx, _, _, rfl, R.ob, T.cl, T.nG, rf_groups _ _ _ _, .inl ⟨rfl, _, .inl (.inl R.gs)⟩, gl, _, _, rfl, rfl, R.gs, hpop, ?_⟩
        obtain ⟨⟨dy, e1⟩, xs, e2, e3⟩ := id G
        obtain ⟨b, bs, eb, bne⟩ := hB.w rfl
        have gne : g.1 ≠ [] := by
          have : g = b := (List.cons.inj eb).1
          rw [this]; exact bne
        refine ⟨a.1, dy, _, rfl, e1, gf_no _ _ (by decide +kernel) (by decide +kernel), a.1, a.2, g.1, g.2, rfl, G, gne, fun v H2 g3 hv => ?_⟩
        have R3 := R2.grow g3
        have hal3 := R3.al
        cases hal3 with
        | cons G2 _ =>
          obtain ⟨⟨dz, f1⟩, ys, f2, f3⟩ := id G2
          have bn := hB.n g2 (List.mem_cons_of_mem _ List.mem_cons_self)
          refine ⟨_, rfl, r, CR, dx, _, _, rfl, R3.ob, T.cl, T.nG, rf_groups _ _ _ _, _, rfl, gl, _, _, _, rfl, rfl, SqL.of R3.gs, top_at, a2.1, dz, _, rfl, f1, gf_no _ _ (by decide +kernel) (by decide +kernel), _, rfl,
            a2.1, a2.2, g2.1, g2.2, _, _, rfl, G2, hv, by have : g2.2 ≤ p := bn.2; omega, by have : g2.1.length ≤ p := bn.1; omega, fun H3 g4 G3 => ?_⟩
          have R4 := R3.setTop (g' := (g2.1 ++ [negs g2.2 (grpF g.1)], 0)) g4 G3
          refine ⟨_, rfl, r, CR, dx, _, _, rfl, R4.ob, T.cl, T.nP, rf_place _ _ _ _, p, 1, rfl, rfl, dx, _, R4.ob, (by show 4 < 1000; decide), ?_⟩
          exact q _ ⟨dx, gl, _, R4.inc 1 rfl⟩
      · cases hs
    · rw [if_neg h2] at hs; cases hs
abbrev N_Reader_read : List Str := ["self", "sign"]
theorem sc_Reader_read : FnScope N_Reader_read ["self"] (defScope s_Reader_read) := ⟨rfl, rfl, rfl, by decide +kernel, rfl, by decide +kernel, by decide +kernel⟩
def sp_Rr (K : PySem.W.Frag) (CG CR : Addr) : Sp := fun vs H Q _ => ∃ (r : Addr) (t : List Nat) (s : RS) (g : Grp) (H0 : Hp), vs = [.ref r] ∧ RdAt K CG CR H0 H r t s ∧ Bd s ∧ t.length ≤ 90000 ∧ Run t s ⟨t.length, [g], false⟩ ∧
  ∀ (v : V) (H' : Hp), Gr H0 H' → FmV K H' v (grpF g.1) → Q v H'
theorem ok_Rr {CG CR : Addr} (B : Bn mg) (TG : TG K mg CG) (T : TR K mg CR) (D : Dm K CR "read" "Reader.read" s_Reader_read ["self"])
    (c_formula : Ml CX0 P w K mg base 1 CG "formula" (sp_Gf K CG)) (c_start : Ml CX0 P w K mg base 3 CR "start" (sp_Rs K CG CR)) (c_go_on : Ml CX0 P w K mg base 3 CR "go_on" (sp_Rg K CG CR)) :
    Ml CX0 P w K mg base 4 CR "read" (sp_Rr K CG CR) := by
  refine D.ok sc_Reader_read (fun vs H Q E h => ?_) (fun f cdv A outer s H vs Q E hr h => ?_)
  · obtain ⟨r, t, s, g, H0, rfl, _⟩ := h
    rfl
  obtain ⟨r, t, s0, g, H0, rfl, R0, hB, ht, hrun, q⟩ := h
  refine ⟨_, (pss_cons (ps_while PassesOwn.never (pt_cmpR op_lt (pe_fld (pv 0) rfl) (pe_callB call_len_str (by rfl) B.len PySem.boot_len (pa_cons (pe_fld (pv 0) rfl) pa_nil)) (nomark _))
    (pss_cons (ps_set (i := 1) sc_Reader_read.nd rfl (by first | exact Or.inl rfl | exact Or.inr rfl) (pe_ix ix_str (pe_fld (pv 0) rfl) (pe_fld (pv 0) rfl) (fun _ _ => rfl)))
  (pss_one (ps_if (pt_cmpR op_eq (pv 1) pe_str (nomark _))
    (pss_one (ps_fldaug (pv 0) pe_int in_add))
    (pss_one (ps_if (pt_val (pe_fld (pv 0) rfl))
    (pss_one (ps_expr (pm T.cl c_start hr (by omega) ps0 (pv 0) (pa_cons (pv 1) pa_nil))))
    (pss_one (ps_expr (pm T.cl c_go_on hr (by omega) ps0 (pv 0) (pa_cons (pv 1) pa_nil))))))))))
  (pss_cons (ps_if (PW.pt (pw_or (pt_val (pe_fld (pv 0) rfl)) (pw_or1 (pt_cmpR op_gt (pe_callB call_len_seq (by rfl) B.len PySem.boot_len (pa_cons (pe_fld (pv 0) rfl) pa_nil)) pe_int (nomark _)))))
    (pss_one ps_never)
    pss_nil)
  (pss_one (ps_ret (pm0 TG.cl c_formula hr (by omega) ps0 (pe_ix ix_list (pe_fld (pv 0) rfl) pe_int (fun _ _ => rfl))))))), ?_⟩
  refine ⟨fun m σ' H' => ∃ s v1, σ' = [some (.ref r), v1] ∧ m = t.length - s.p ∧ RdAt K CG CR H0 H' r t s ∧ Bd s ∧ Run t s ⟨t.length, [g], false⟩, ⟨_, s0, none, rfl, rfl, R0, hB, hrun⟩, ?_⟩
  rintro m σ' H' ⟨s, v1, rfl, rfl, ⟨dx, gl, as, R⟩, hB, hrun⟩
  refine ⟨_, rfl, r, CR, dx, _, _, rfl, R.ob, T.cl, T.nP, rf_place _ _ _ _, _, rfl, r, CR, dx, _, _, rfl, R.ob, T.cl, T.nT, rf_text _ _ _ _, _, rfl, by rw [SX.S_len]; exact szle ht (by omega), _, _, rfl, rfl, _, rfl, ?_⟩
  rw [SX.S_len]
  by_cases hp : s.p < t.length
  · rw [decide_eq_true (by omega : (s.p : Int) < (t.length : Int))]
    refine iteT ?_
    refine ⟨fun σ' H' => ∃ s2 v1, σ' = [some (.ref r), v1] ∧ t.length - s2.p < t.length - s.p ∧ RdAt K CG CR H0 H' r t s2 ∧ Bd s2 ∧ Run t s2 ⟨t.length, [g], false⟩, fun σ' H' ⟨s2, v1, e, l, R, B, u⟩ => ⟨_, l, s2, v1, e, rfl, R, B, u⟩, ?_⟩
    cases hrun with
    | refl => exact absurd hp (Nat.lt_irrefl _)
    | @more _ s1 _ hst hrun =>
      have hc : t[s.p]? = some t[s.p] := List.getElem?_eq_getElem hp
      obtain ⟨hB1, hlt⟩ := bd_step hB hst
      have lt1 : t.length - s1.p < t.length - s.p := by omega
      refine ⟨_, rfl, r, CR, dx, _, _, rfl, R.ob, T.cl, T.nT, rf_text _ _ _ _, _, rfl, r, CR, dx, _, _, rfl, R.ob, T.cl, T.nP, rf_place _ _ _ _, _, _, t[s.p], rfl, rfl, by rw [SX.S_len]; exact szle ht (by omega), atI_nat (j := s.p) hc, ?_⟩
      refine ⟨_, rfl, rfl, _, rfl, ?_⟩
      rw [z_sp, one_eq]
      unfold stepS at hst
      rw [hc] at hst
      simp only at hst
      by_cases h32 : t[s.p] = 32
      · rw [if_pos h32] at hst
        cases hst
        rw [decide_eq_true h32]
        refine iteT ?_
        refine ⟨_, rfl, r, CR, dx, _, _, rfl, R.ob, T.cl, T.nP, rf_place _ _ _ _, _, 1, rfl, rfl, dx, _, R.ob, (by show 4 < 1000; decide), ?_⟩
        exact ⟨_, _, rfl, lt1, ⟨dx, gl, as, R.inc 1 rfl⟩, hB1, hrun⟩
      · rw [if_neg h32] at hst
        rw [decide_eq_false h32]
        refine iteF ?_
        refine ⟨_, rfl, r, CR, dx, _, _, rfl, R.ob, T.cl, T.nW, rf_wants _ _ _ _, _, rfl, ?_⟩
        cases hw : s.wants with
        | true =>
          rw [hw] at hst
          refine iteT ?_
          exact ⟨_, rfl, r, dx, _, rfl, R.ob, rf_no _ _ _ _ (by decide +kernel) (by decide +kernel) (by decide +kernel) (by decide +kernel), _, rfl, r, _, t, s, s1, H0, rfl, ⟨dx, gl, as, R⟩, hB, hc, ht, hst, hw, fun H2 R2 => ⟨s1, _, rfl, lt1, R2, hB1, hrun⟩⟩
        | false =>
          rw [hw] at hst
          refine iteF ?_
          exact ⟨_, rfl, r, dx, _, rfl, R.ob, rf_no _ _ _ _ (by decide +kernel) (by decide +kernel) (by decide +kernel) (by decide +kernel), _, rfl, r, _, t, s, s1, H0, rfl, ⟨dx, gl, as, R⟩, hB, hc, ht, hst, hw, fun H2 R2 => ⟨s1, _, rfl, lt1, R2, hB1, hrun⟩⟩
  · rw [decide_eq_false (by omega : ¬ (s.p : Int) < (t.length : Int))]
    refine iteF ?_
    have es : s = ⟨t.length, [g], false⟩ := by
      cases hrun with
      | refl => rfl
      | more hst _ =>
        unfold stepS at hst
        rw [List.getElem?_eq_none_iff.mpr (by omega)] at hst
        cases hst
    subst es
    have hal := R.al
    obtain ⟨a, rfl⟩ : ∃ a, as = [a] := by
      cases hal with
      | cons _ q1 => cases q1; exact ⟨_, rfl⟩
    refine ⟨_, rfl, r, CR, dx, _, _, rfl, R.ob, T.cl, T.nW, rf_wants _ _ _ _, _, rfl, iteF ?_⟩
    refine ⟨_, rfl, r, CR, dx, _, _, rfl, R.ob, T.cl, T.nG, rf_groups _ _ _ _, gl, _, rfl, .inl (SqL.of R.gs), _, _, rfl, rfl, _, rfl, iteF ?_⟩
    cases hal with
    | cons G _ =>
      obtain ⟨⟨dy, e1⟩, xs, e2, e3⟩ := id G
      obtain ⟨b, bs, eb, bne⟩ := hB.w rfl
      have gne : g.1 ≠ [] := by
        have : g = b := (List.cons.inj eb).1
        rw [this]; exact bne
      exact ⟨_, rfl, r, CR, dx, _, _, rfl, R.ob, T.cl, T.nG, rf_groups _ _ _ _, gl, _, _, _, rfl, rfl, SqL.of R.gs, bot_at, a.1, dy, _, rfl, e1, gf_no _ _ (by decide +kernel) (by decide +kernel), a.1, a.2, g.1, g.2, rfl, G, gne, fun v H2 g3 hv => q v H2 (R.gr.trans g3) hv⟩
abbrev N_read : List Str := ["text"]
theorem sc_read : FnScope N_read ["text"] (defScope s_read) := ⟨rfl, rfl, rfl, by decide +kernel, rfl, by decide +kernel, by decide +kernel⟩
def sp_read (K : PySem.W.Frag) : Sp := fun vs H Q _ => ∃ (t : List Nat) (g : Grp), vs = [.str (SX.S t)] ∧ t.length ≤ 90000 ∧ Run t ⟨0, [([], 0)], true⟩ ⟨t.length, [g], false⟩ ∧
  ∀ (v : V) (H' : Hp), Gr H H' → FmV K H' v (grpF g.1) → Q v H'
theorem ok_read {CG CR : Addr} (B : Bn mg) (T : TR K mg CR) (D : Df K mg "read" s_read ["text"]) (c_read : Ml CX0 P w K mg base 4 CR "read" (sp_Rr K CG CR)) (c_Reader : Mm CX0 P w K mg base 3 "Reader" CR (sp_Ri K CG CR)) :
    Cl CX0 P w K mg base 5 "read" (sp_read K) := by
  refine D.ok sc_read (fun vs H Q E h => ?_) (fun f cdv A outer s H vs Q E hr h => ?_)
  · obtain ⟨t, g, rfl, _⟩ := h
    rfl
  obtain ⟨t, g, rfl, ht, hrun, q⟩ := h
  refine ⟨_, (pss_one (ps_ret (pm0 T.cl c_read hr (by omega) ps0 (pk c_Reader hr (by omega) rfl ps0 (pa_cons (pv 0) pa_nil))))), ?_⟩
  refine ⟨_, rfl, fun r dx nr nd ne => ?_⟩
  refine ⟨r, dx, t, H, rfl, upd_same, gr_made nr nd ne, nr, fun H' R => ⟨rfl, ?_⟩⟩
  obtain ⟨dx', gl, as, R'⟩ := id R
  exact ⟨r, dx', _, rfl, R'.ob, rf_no _ _ _ _ (by decide +kernel) (by decide +kernel) (by decide +kernel) (by decide +kernel), r, t, _, g, H, rfl, R, ⟨fun x hx => by rw [List.mem_singleton.mp hx]; exact ⟨Nat.zero_le _, Nat.zero_le _⟩, Nat.le_refl _, (fun z => nomatch z), List.cons_ne_nil _ _⟩, ht, hrun, q⟩
theorem n6_nm {x : Str} (h : x ∈ N6) : Nm x := by
  have e : ∀ y ∈ N6, y.cps.toList = [97] ∨ y.cps.toList = [98] ∨ y.cps.toList = [122] ∨ y.cps.toList = [99, 55] ∨ y.cps.toList = [97, 48] ∨ y.cps.toList = [109, 57] := by decide +kernel
  rcases e x h with e | e | e | e | e | e
  · exact ⟨97, rfl, .inl e⟩
  · exact ⟨98, rfl, .inl e⟩
  · exact ⟨122, rfl, .inl e⟩
  · exact ⟨99, rfl, .inr ⟨55, rfl, e⟩⟩
  · exact ⟨97, rfl, .inr ⟨48, rfl, e⟩⟩
  · exact ⟨109, rfl, .inr ⟨57, rfl, e⟩⟩
theorem n6_len {x : Str} (h : x ∈ N6) : x.length ≤ 2 := (by decide +kernel : ∀ y ∈ N6, y.length ≤ 2) x h
theorem n6_ok {x : Str} (h : x ∈ N6) : PyData.strOk x = true := (by decide +kernel : ∀ y ∈ N6, PyData.strOk y = true) x h
theorem canLay_fm : ∀ f : Fm, (∀ x ∈ f.lets, PyData.strOk x = true) → f.d.canLay0 = true
  | .lt n, h => by
    have := h n (List.mem_singleton_self _)
    simp [Fm.d, PyData.canLay0, PyData.canLayAll0, this, (by decide +kernel : PyData.strOk (Str.ofString "letter") = true)]
  | .ng p, h => by
    have := canLay_fm p h
    simp [Fm.d, PyData.canLay0, PyData.canLayAll0, this, (by decide +kernel : PyData.strOk (Str.ofString "not") = true)]
  | .im p q, h => by
    have h1 := canLay_fm p fun x hx => h x (List.mem_append_left _ hx)
    have h2 := canLay_fm q fun x hx => h x (List.mem_append_right _ hx)
    simp [Fm.d, PyData.canLay0, PyData.canLayAll0, h1, h2, (by decide +kernel : PyData.strOk (Str.ofString "if") = true)]
theorem shaped_fm {f : Fm} (h : ∀ x ∈ f.lets, PyData.strOk x = true) (hd : f.depth ≤ 64) : SeqAt.shaped f.d = true := by
  unfold SeqAt.shaped
  rw [canLay_fm f h, Fm.d_depth, decide_eq_true hd]; rfl
theorem run_det {t : List Nat} {a b c : RS} (x : Run t a b) (y : Run t a c) (hb : stepS t b = none) (hc : stepS t c = none) : b = c := by
  induction x with
  | refl =>
    cases y with
    | refl => rfl
    | more h _ => rw [hb] at h; cases h
  | more h r ih =>
    cases y with
    | refl => rw [hc] at h; cases h
    | more h2 r2 =>
      rw [h] at h2; cases h2
      exact ih r2 hb
theorem step_end {t : List Nat} {gs : List Grp} {w : Bool} : stepS t ⟨t.length, gs, w⟩ = none := by
  unfold stepS
  rw [List.getElem?_eq_none_iff.mpr (Nat.le_refl _)]
theorem tx_inj {f g : Fm} (hf : Named f) (hg : Named g) (e : f.tx = g.tx) : f = g := by
  have a := read_tx hf
  have b := read_tx hg
  rw [← e] at b
  have := run_det a b step_end step_end
  have h : spine f = spine g := by
    injection this with _ h2 _
    exact (Prod.mk.inj (List.cons.inj h2).1).1
  rw [← grpF_spine f, ← grpF_spine g, h]
theorem bl_at : ∀ (j : Nat), j < 4 → ∃ n : Nat, n ≤ 2 ∧ atI [V.str "", V.str "", V.str " ", V.str "  "] (j : Int) = some (.str (SX.S (bl n)))
  | 0, _ => ⟨0, by decide, rfl⟩ | 1, _ => ⟨0, by decide, rfl⟩ | 2, _ => ⟨1, by decide, by decide +kernel⟩ | 3, _ => ⟨2, by decide, by decide +kernel⟩
  | n + 4, h => absurd h (by omega)
abbrev N_Lblank : List Str := ["_law_box_here"]
theorem sc_Lblank : FnScope N_Lblank ["_law_box_here"] (defScope s_Lblank) := ⟨rfl, rfl, rfl, by decide +kernel, rfl, by decide +kernel, by decide +kernel⟩
def sp_Lblank : Sp := fun vs H Q _ => ∃ b : Addr, vs = [.ref b] ∧ Bx H b ∧ ∀ (n : Nat) (H' : Hp), n ≤ 2 → Gx [b] H H' → Bx H' b → Q (.str (SX.S (bl n))) H'
theorem ok_Lblank (B : Bn mg) (D : Df K mg "_law_blank" s_Lblank ["_law_box_here"]) (c_Ldraw : Cl CX0 P w K mg base 1 "_law_draw" sp_Ldraw) : Cl CX0 P w K mg base 2 "_law_blank" sp_Lblank := by
  refine D.ok sc_Lblank (fun vs H Q E h => ?_) (fun f cdv A outer s H vs Q E hr h => ?_)
  · obtain ⟨b, rfl, _⟩ := h
    rfl
  obtain ⟨b, rfl, hB, q⟩ := h
  refine ⟨_, (pss_one (ps_ret (pe_ix ix_list (pe_lst (pa_cons pe_str (pa_cons pe_str (pa_cons pe_str (pa_cons pe_str pa_nil))))) (pc c_Ldraw hr (by omega) rfl ps0 (pa_cons (pv 0) (pa_cons pe_int pa_nil))) (fun _ _ => rfl)))), ?_⟩
  refine ⟨(by show 4 ≤ sizeLine; decide), fun l hl => ?_⟩
  generalize z1 : upd H l _ = H1
  obtain ⟨g1, e1⟩ := hA_gr z1 hl
  obtain ⟨dg, at_, ds, hb, _⟩ := hB.ex
  have nbl : b ≠ l := ne_of_none hb hl
  refine ⟨_, rfl, b, 4, rfl, by decide, hB.gr g1, fun r H2 r0 r1 g2 B2 => ?_⟩
  obtain ⟨j, rfl⟩ : ∃ j : Nat, r = (j : Int) := ⟨r.toNat, by omega⟩
  obtain ⟨n, hn, e⟩ := bl_at j (by omega)
  exact ⟨l, _, _, _, rfl, rfl, SqL.of (g2.lst e1 (by simp [nbl.symm])), e, q n H2 hn ((g1.mono (fun a m => nomatch m)).trans g2) B2⟩
theorem z_ar : ("->" : Str) = SX.S [45, 62] := by decide +kernel
theorem gt_par0 {f : Fm} {T : List Nat} (h : TT f T) : GT f ([40] ++ T ++ [41]) := by
  have := gt_par h 0 0
  rw [show ([40] ++ T ++ [41] : List Nat) = 40 :: (bl 0 ++ (T ++ (bl 0 ++ [41]))) by simp [bl]]
  exact this
theorem tag_if (f : Fm) : decide (V.str f.tag = V.str "if") = f.isIm := by
  cases f with
  | lt x => exact (by decide +kernel : decide (V.str "letter" = V.str "if") = false)
  | ng x => exact (by decide +kernel : decide (V.str "not" = V.str "if") = false)
  | im p q => exact (by decide +kernel : decide (V.str "if" = V.str "if") = true)
theorem tag_not (f : Fm) : decide (V.str f.tag = V.str "not") = match f with | .ng _ => true | _ => false := by
  cases f with
  | lt x => exact (by decide +kernel : decide (V.str "letter" = V.str "not") = false)
  | ng x => exact (by decide +kernel : decide (V.str "not" = V.str "not") = true)
  | im p q => exact (by decide +kernel : decide (V.str "if" = V.str "not") = false)
abbrev N_Lloose_part : List Str := ["_law_box_here", "_law_formula", "_law_text"]
theorem sc_Lloose_part : FnScope N_Lloose_part ["_law_box_here", "_law_formula"] (defScope s_Lloose_part) := ⟨rfl, rfl, rfl, by decide +kernel, rfl, by decide +kernel, by decide +kernel⟩
def sp_Lloose (K : PySem.W.Frag) (n : Nat) : Sp := fun vs H Q _ => ∃ (b : Addr) (v : V) (f : Fm), vs = [.ref b, v] ∧ Bx H b ∧ FmV K H v f ∧ f.depth ≤ n ∧ f.Sh ∧ Named f ∧ f.size ≤ 1000 ∧
  ∀ (T : List Nat) (H' : Hp), Gx [b] H H' → Bx H' b → TT f T → (f.isIm = false → GT f T) → T.length ≤ 20 * f.size → Q (.str (SX.S T)) H'
def sp_Lloose_part (K : PySem.W.Frag) (n : Nat) : Sp := fun vs H Q _ => ∃ (b : Addr) (v : V) (f : Fm), vs = [.ref b, v] ∧ Bx H b ∧ FmV K H v f ∧ f.depth ≤ n ∧ f.Sh ∧ Named f ∧ f.size ≤ 1000 ∧
  ∀ (T : List Nat) (H' : Hp), Gx [b] H H' → Bx H' b → GT f T → T.length ≤ 20 * f.size + 2 → Q (.str (SX.S T)) H'
theorem st_Lloose_part {n : Nat} (B : Bn mg) (D : Df K mg "_law_loose_part" s_Lloose_part ["_law_box_here", "_law_formula"]) (c_Ldraw : Cl CX0 P w K mg base 1 "_law_draw" sp_Ldraw) (c_Lloose : Cl CX0 P w K mg base (2 * n + 1) "_law_loose" (sp_Lloose K n)) :
    Cl CX0 P w K mg base (2 * n + 2) "_law_loose_part" (sp_Lloose_part K n) := by
  refine D.ok sc_Lloose_part (fun vs H Q E h => ?_) (fun f cdv A outer s H vs Q E hr h => ?_)
  · obtain ⟨b, v, f, rfl, _⟩ := h
    rfl
  obtain ⟨b, v, f, rfl, hB, hf, hn, hs, hnm, hz, q⟩ := h
  refine ⟨_, (pss_cons (ps_set (i := 2) sc_Lloose_part.nd rfl (by first | exact Or.inl rfl | exact Or.inr rfl) (pc c_Lloose hr (by omega) rfl ps0 (pa_cons (pv 0) (pa_cons (pv 1) pa_nil))))
  (pss_cons (ps_if (PW.pt (pw_or (pt_cmpR op_eq (pe_ix ix_tup (pv 1) pe_int (fun _ _ => rfl)) pe_str (nomark _)) (pw_or1 (pt_cmpR op_eq (pc c_Ldraw hr (by omega) rfl ps0 (pa_cons (pv 0) (pa_cons pe_int pa_nil))) pe_int (nomark _)))))
    (pss_one (ps_ret (pe_op op_add_str (pe_op op_add_str pe_str (pv 2)) pe_str)))
    pss_nil)
  (pss_one (ps_ret (pv 2))))), ?_⟩
  refine ⟨_, rfl, _, rfl, b, v, f, rfl, hB, hf, hn, hs, hnm, hz, fun T H1 g1 B1 tt gt hl => ?_⟩
  obtain ⟨a, xs, rfl, ha⟩ := fm_tup (g1.dt hf)
  refine ⟨_, rfl, a, _, _, _, rfl, rfl, ha, at0, (by rfl : scal (V.str f.tag) (V.str "if") = true), _, rfl, ?_⟩
  rw [tag_if]
  cases hi : f.isIm with
  | true =>
    refine iteT (iteT ?_)
    refine ⟨_, rfl, _, _, rfl, rfl, ?_, _, _, rfl, rfl, ?_, ?_⟩
    · rw [z_lp, s_len, s_len]; exact szle (m := 20001) (by simp only [List.length_cons, List.length_nil]; omega) (by omega)
    · rw [z_lp, z_rp, SX.S_cat, s_len, s_len]; exact szle (m := 20002) (by simp only [List.length_append, List.length_cons, List.length_nil]; omega) (by omega)
    · rw [z_lp, z_rp, SX.S_cat, SX.S_cat]; exact q _ _ g1 B1 (gt_par0 tt) (by simp only [List.length_append, List.length_cons, List.length_nil]; omega)
  | false =>
    refine iteF ?_
    refine ⟨_, rfl, b, 6, rfl, by decide, B1, fun r H2 r0 r1 g2 B2 => ⟨rfl, _, rfl, ?_⟩⟩
    refine ite2 (fun _ => ?_) (fun _ => ?_)
    · refine ⟨_, rfl, _, _, rfl, rfl, ?_, _, _, rfl, rfl, ?_, ?_⟩
      · rw [z_lp, s_len, s_len]; exact szle (m := 20001) (by simp only [List.length_cons, List.length_nil]; omega) (by omega)
      · rw [z_lp, z_rp, SX.S_cat, s_len, s_len]; exact szle (m := 20002) (by simp only [List.length_append, List.length_cons, List.length_nil]; omega) (by omega)
      · rw [z_lp, z_rp, SX.S_cat, SX.S_cat]; exact q _ _ (g1.trans g2) B2 (gt_par0 tt) (by simp only [List.length_append, List.length_cons, List.length_nil]; omega)
    · exact ⟨_, rfl, q _ _ (g1.trans g2) B2 (gt hi) (by omega)⟩
/-- the three shapes at once -/
def Fm.sh (K : PySem.W.Frag) (H : Hp) (x : V) (r : List V) : Fm → Prop
  | .lt n => x = .str n ∧ r = []
  | .ng p => FmV K H x p ∧ r = []
  | .im p q => ∃ y, r = [y] ∧ FmV K H x p ∧ FmV K H y q
theorem fm_sh {K : PySem.W.Frag} {H : Hp} {v : V} : ∀ {f : Fm}, FmV K H v f → ∃ a x r, v = .ref a ∧ SqT K H a (.str f.tag :: x :: r) ∧ Fm.sh K H x r f
  | .lt n, h => by obtain ⟨a, rfl, h1⟩ := fm_lt h; exact ⟨a, _, _, rfl, h1, rfl, rfl⟩
  | .ng p, h => by obtain ⟨a, x, rfl, h1, h2⟩ := fm_ng h; exact ⟨a, _, _, rfl, h1, h2, rfl⟩
  | .im p q, h => by obtain ⟨a, x, y, rfl, h1, h2, h3⟩ := fm_im h; exact ⟨a, _, _, rfl, h1, y, rfl, h2, h3⟩
abbrev N_Lloose : List Str := ["_law_box_here", "_law_formula", "_law_text"]
theorem sc_Lloose : FnScope N_Lloose ["_law_box_here", "_law_formula"] (defScope s_Lloose) := ⟨rfl, rfl, rfl, by decide +kernel, rfl, by decide +kernel, by decide +kernel⟩
theorem st_Lloose {n : Nat} (B : Bn mg) (D : Df K mg "_law_loose" s_Lloose ["_law_box_here", "_law_formula"]) (c_Ldraw : Cl CX0 P w K mg base 1 "_law_draw" sp_Ldraw) (c_Lblank : Cl CX0 P w K mg base 2 "_law_blank" sp_Lblank)
    (c_Lloose_part : Cl CX0 P w K mg base (2 * n + 2) "_law_loose_part" (sp_Lloose_part K n)) (c_Lloose : Cl CX0 P w K mg base (2 * n + 1) "_law_loose" (sp_Lloose K n)) :
    Cl CX0 P w K mg base (2 * n + 3) "_law_loose" (sp_Lloose K (n + 1)) := by
  refine D.ok sc_Lloose (fun vs H Q E h => ?_) (fun f cdv A outer s H vs Q E hr h => ?_)
  · obtain ⟨b, v, f, rfl, _⟩ := h
    rfl
  obtain ⟨b, v, f, rfl, hB, hf, hn, hs, hnm, hz, q⟩ := h
  refine ⟨_, (pss_cons (ps_set (i := 2) sc_Lloose.nd rfl (by first | exact Or.inl rfl | exact Or.inr rfl) (pe_ix ix_tup (pv 1) pe_int (fun _ _ => rfl)))
  (C8.pss_cut (ps_if (pt_cmpR op_eq (pe_ix ix_tup (pv 1) pe_int (fun _ _ => rfl)) pe_str (nomark _))
    (pss_one (ps_set (i := 2) sc_Lloose.nd rfl (by first | exact Or.inl rfl | exact Or.inr rfl) (pe_op op_add_str (pe_op op_add_str pe_str (pc c_Lblank hr (by omega) rfl ps0 (pa_cons (pv 0) pa_nil))) (pc c_Lloose_part hr (by omega) rfl ps0 (pa_cons (pv 0) (pa_cons (pe_ix ix_tup (pv 1) pe_int (fun _ _ => rfl)) pa_nil))))))
    (pss_one (ps_if (pt_cmpR op_eq (pe_ix ix_tup (pv 1) pe_int (fun _ _ => rfl)) pe_str (nomark _))
    (pss_one (ps_set (i := 2) sc_Lloose.nd rfl (by first | exact Or.inl rfl | exact Or.inr rfl) (pe_op op_add_str (pe_op op_add_str (pe_op op_add_str (pe_op op_add_str (pc c_Lloose_part hr (by omega) rfl ps0 (pa_cons (pv 0) (pa_cons (pe_ix ix_tup (pv 1) pe_int (fun _ _ => rfl)) pa_nil))) (pc c_Lblank hr (by omega) rfl ps0 (pa_cons (pv 0) pa_nil))) pe_str) (pc c_Lblank hr (by omega) rfl ps0 (pa_cons (pv 0) pa_nil))) (pc c_Lloose hr (by omega) rfl ps0 (pa_cons (pv 0) (pa_cons (pe_ix ix_tup (pv 1) pe_int (fun _ _ => rfl)) pa_nil))))))
    pss_nil)))
  (pss_cons (ps_if (pt_cmpR op_eq (pc c_Ldraw hr (by omega) rfl ps0 (pa_cons (pv 0) (pa_cons pe_int pa_nil))) pe_int (nomark _))
    (pss_one (ps_ret (pe_op op_add_str (pe_op op_add_str (pe_op op_add_str (pe_op op_add_str pe_str (pc c_Lblank hr (by omega) rfl ps0 (pa_cons (pv 0) pa_nil))) (pv 2)) (pc c_Lblank hr (by omega) rfl ps0 (pa_cons (pv 0) pa_nil))) pe_str)))
    pss_nil)
  (pss_one (ps_ret (pv 2)))))), ?_⟩
  obtain ⟨a, x, r, rfl, ha, hsh⟩ := fm_sh hf
  refine ⟨_, rfl, a, _, _, _, rfl, rfl, ha, at1, ?_⟩
  refine ⟨fun σ' H1 => ∃ T : List Nat, σ' = [some (.ref b), some (.ref a), some (.str (SX.S T))] ∧ Gx [b] H H1 ∧ Bx H1 b ∧ TT f T ∧ (f.isIm = false → GT f T) ∧ T.length + 6 ≤ 20 * f.size, ?_, ?_⟩
  · refine ⟨_, rfl, a, _, _, _, rfl, rfl, ha, at0, (by rfl : scal (V.str f.tag) (V.str "not") = true), _, rfl, ?_⟩
    rw [tag_not]
    cases f with
    | lt m =>
      refine iteF ?_
      refine ⟨_, rfl, a, _, _, _, rfl, rfl, ha, at0, (by rfl : scal (V.str (Fm.lt m).tag) (V.str "if") = true), _, rfl, ?_⟩
      rw [tag_if]
      obtain ⟨rfl, rfl⟩ := hsh
      have hm := gt_lt (hnm m (List.mem_singleton_self _))
      have hl := hs m (List.mem_singleton_self _)
      refine iteF ⟨m.cps.toList, by rw [SX.S_tl]; rfl, Gx.refl, hB, hm.tt, fun _ => hm, ?_⟩
      rw [Array.length_toList]
      show m.cps.size + 6 ≤ 20 * 1
      have : m.cps.size ≤ 2 := hl
      omega
    | ng p =>
      refine iteT ?_
      obtain ⟨hx, rfl⟩ := hsh
      have hd : p.depth + 1 ≤ n + 1 := hn
      have hz' : 1 + p.size ≤ 1000 := hz
      refine ⟨_, rfl, b, rfl, hB, fun k H1 hk g1 B1 => ?_⟩
      refine ⟨_, _, rfl, rfl, ?_, _, rfl, _, rfl, a, _, _, _, rfl, rfl, g1.sqT ha, at1, b, _, p, rfl, B1, g1.dt hx, by omega, hs.ng, hnm.ng, by omega, fun T H2 g2 B2 gt hl => ?_⟩
      · rw [z_ng, s_len, s_len]; exact szle (m := 3) (by simp only [List.length_cons, List.length_nil, bl_len]; omega) (by omega)
      have hT : GT (.ng p) ([126] ++ bl k ++ T) := gt_ng gt k
      have hlen : ([126] ++ bl k ++ T).length + 6 ≤ 20 * (Fm.ng p).size := by
        simp only [List.length_append, List.length_cons, List.length_nil, bl_len]; show _ ≤ 20 * (1 + p.size); omega
      refine ⟨_, _, rfl, rfl, ?_, [126] ++ bl k ++ T, ?_, g1.trans g2, B2, hT.tt, fun _ => hT, hlen⟩
      · rw [z_ng, SX.S_cat, s_len, s_len]; exact szle (m := 20010) (by simp only [List.length_append, List.length_cons, List.length_nil, bl_len]; omega) (by omega)
      · rw [z_ng, SX.S_cat, SX.S_cat]; rfl
    | im p r2 =>
      refine iteF ?_
      refine ⟨_, rfl, a, _, _, _, rfl, rfl, ha, at0, (by rfl : scal (V.str (Fm.im p r2).tag) (V.str "if") = true), _, rfl, ?_⟩
      rw [tag_if]
      obtain ⟨y, rfl, hx, hy⟩ := hsh
      have hd : max p.depth r2.depth + 1 ≤ n + 1 := hn
      have hz' : 1 + (p.size + r2.size) ≤ 1000 := hz
      refine iteT ?_
      refine ⟨_, rfl, _, rfl, a, _, _, _, rfl, rfl, ha, at1, b, _, p, rfl, hB, hx, by omega, hs.l, hnm.l, by omega, fun T H1 g1 B1 gt hl => ?_⟩
      refine ⟨_, rfl, b, rfl, B1, fun k H2 hk g2 B2 => ⟨_, _, rfl, rfl, ?_, _, _, rfl, rfl, ?_, ?_⟩⟩
      · rw [s_len, s_len]; exact szle (m := 20010) (by simp only [bl_len]; omega) (by omega)
      · rw [z_ar, SX.S_cat, s_len, s_len]; exact szle (m := 20020) (by simp only [List.length_append, List.length_cons, List.length_nil, bl_len]; omega) (by omega)
      refine ⟨_, rfl, b, rfl, B2, fun k2 H3 hk2 g3 B3 => ⟨_, _, rfl, rfl, ?_, ?_⟩⟩
      · rw [z_ar, SX.S_cat, SX.S_cat, s_len, s_len]; exact szle (m := 20030) (by simp only [List.length_append, List.length_cons, List.length_nil, bl_len]; omega) (by omega)
      have g13 := (g1.trans g2).trans g3
      refine ⟨_, rfl, _, rfl, a, _, _, _, rfl, rfl, g13.sqT ha, at2, b, _, r2, rfl, B3, g13.dt hy, by omega, hs.r, hnm.r, by omega, fun U H4 g4 B4 tt _ hl4 => ?_⟩
      have hT : TT (.im p r2) (T ++ bl k ++ [45, 62] ++ bl k2 ++ U) := by
        have := tt_im gt tt k k2
        rw [show T ++ bl k ++ [45, 62] ++ bl k2 ++ U = T ++ (bl k ++ (45 :: 62 :: (bl k2 ++ U))) by simp only [List.append_assoc]; rfl]
        exact this
      refine ⟨_, _, rfl, rfl, ?_, T ++ bl k ++ [45, 62] ++ bl k2 ++ U, ?_, g13.trans g4, B4, hT, fun h => (by cases h), ?_⟩
      · rw [z_ar, SX.S_cat, SX.S_cat, SX.S_cat, s_len, s_len]; exact szle (m := 40050) (by simp only [List.length_append, List.length_cons, List.length_nil, bl_len]; omega) (by omega)
      · rw [z_ar, SX.S_cat, SX.S_cat, SX.S_cat, SX.S_cat]; rfl
      · simp only [List.length_append, List.length_cons, List.length_nil, bl_len]; show _ ≤ 20 * (1 + (p.size + r2.size)); omega
  · rintro σ' H1 ⟨T, rfl, g1, B1, tt, gt, hl⟩
    refine ⟨_, rfl, b, 6, rfl, by decide, B1, fun d H2 r0 r1 g2 B2 => ⟨rfl, _, rfl, ?_⟩⟩
    refine ite2 (fun _ => ?_) (fun _ => ?_)
    · refine ⟨_, rfl, b, rfl, B2, fun k H3 hk g3 B3 => ⟨_, _, rfl, rfl, ?_, _, rfl, _, _, rfl, rfl, ?_, ?_⟩⟩
      · rw [z_lp, s_len, s_len]; exact szle (m := 3) (by simp only [List.length_cons, List.length_nil, bl_len]; omega) (by omega)
      · rw [z_lp, SX.S_cat, s_len, s_len]; exact szle (m := 20010) (by simp only [List.length_append, List.length_cons, List.length_nil, bl_len]; omega) (by omega)
      refine ⟨_, rfl, b, rfl, B3, fun k2 H4 hk2 g4 B4 => ⟨_, _, rfl, rfl, ?_, _, _, rfl, rfl, ?_, ?_⟩⟩
      · rw [z_lp, SX.S_cat, SX.S_cat, s_len, s_len]; exact szle (m := 20020) (by simp only [List.length_append, List.length_cons, List.length_nil, bl_len]; omega) (by omega)
      · rw [z_lp, z_rp, SX.S_cat, SX.S_cat, SX.S_cat, s_len, s_len]; exact szle (m := 20030) (by simp only [List.length_append, List.length_cons, List.length_nil, bl_len]; omega) (by omega)
      rw [z_lp, z_rp, SX.S_cat, SX.S_cat, SX.S_cat, SX.S_cat]
      have hG : GT f ([40] ++ bl k ++ T ++ bl k2 ++ [41]) := by
        have := gt_par tt k k2
        rw [show [40] ++ bl k ++ T ++ bl k2 ++ [41] = 40 :: (bl k ++ (T ++ (bl k2 ++ [41]))) by simp only [List.append_assoc]; rfl]
        exact this
      exact q _ _ (((g1.trans g2).trans g3).trans g4) B4 hG.tt (fun _ => hG) (by simp only [List.length_append, List.length_cons, List.length_nil, bl_len]; omega)
    · exact ⟨_, rfl, q _ _ (g1.trans g2) B2 tt gt (by omega)⟩
theorem ok_Lloose (B : Bn mg) (D : Df K mg "_law_loose" s_Lloose ["_law_box_here", "_law_formula"]) (D2 : Df K mg "_law_loose_part" s_Lloose_part ["_law_box_here", "_law_formula"]) (c_Ldraw : Cl CX0 P w K mg base 1 "_law_draw" sp_Ldraw)
    (c_Lblank : Cl CX0 P w K mg base 2 "_law_blank" sp_Lblank) : ∀ n : Nat, Cl CX0 P w K mg base (2 * n + 1) "_law_loose" (sp_Lloose K n)
  | 0 => D.none fun vs H Q E ⟨_, _, f, _, _, _, h, _⟩ => by have := f.depth_pos; omega
  | n + 1 => st_Lloose B D c_Ldraw c_Lblank (st_Lloose_part B D2 c_Ldraw (ok_Lloose B D D2 c_Ldraw c_Lblank n)) (ok_Lloose B D D2 c_Ldraw c_Lblank n)
abbrev N_law : List Str := ["_law_script", "_law_box_here", "_law_k", "_law_formula", "_law_text"]
theorem sc_law : FnScope N_law ["_law_script"] (defScope s_law) := ⟨rfl, rfl, rfl, by decide +kernel, rfl, by decide +kernel, by decide +kernel⟩
def spLaw (K : PySem.W.Frag) : Sp := fun vs H Q _ => ∃ (a : Addr) (ns : List Int), vs = [.ref a] ∧ SqL K H a (ns.map V.int) ∧ ns.length ≤ 63 ∧ ∀ H', Q (.bl true) H'
theorem ok_law {f : Addr} {fd : FuncData} (B : Bn mg) (F : Fun K "law" "law" s_law f fd) (c_Lbox : Cl CX0 P w K mg base 3 "_law_box" (sp_Lbox K)) (c_Llettered : Cl CX0 P w K mg base 62 "_law_lettered" (sp_Llettered K))
    (c_Lblank : Cl CX0 P w K mg base 2 "_law_blank" sp_Lblank) (c_Lloose : Cl CX0 P w K mg base (2 * 60 + 1) "_law_loose" (sp_Lloose K 60)) (c_Lsame : Cl CX0 P w K mg base 65 "_law_same" (sp_Lsame K 65)) (c_read : Cl CX0 P w K mg base 5 "read" (sp_read K)) :
    FnOk P w K mg base CX0 130 f fd ["_law_script"] (spLaw K) := by
  refine F.ok (k := 129) sc_law (fun vs H Q E h => ?_) (fun cdv A outer s H vs Q E hr h => ?_)
  · obtain ⟨a, ns, rfl, _⟩ := h
    rfl
  obtain ⟨a, ns, rfl, hS, hlen, q⟩ := h
  refine ⟨_, (pss_cons (ps_set (i := 1) sc_law.nd rfl (by first | exact Or.inl rfl | exact Or.inr rfl) (pc c_Lbox hr (by omega) rfl ps0 (pa_cons (pv 0) (pa_cons pe_int (pa_cons pe_int pa_nil)))))
  (pss_cons (ps_for PassesOwn.never rfl (pi_range1 (by rfl) B.range (pa_cons pe_int pa_nil)) (pg_name (i := 2) sc_law.nd rfl (by first | exact Or.inl rfl | exact Or.inr rfl))
    (pss_cons (ps_set (i := 3) sc_law.nd rfl (by first | exact Or.inl rfl | exact Or.inr rfl) (pc c_Llettered hr (by omega) rfl ps0 (pa_cons (pv 1) (pa_cons pe_int (pa_cons pe_int pa_nil)))))
  (pss_cons (ps_set (i := 4) sc_law.nd rfl (by first | exact Or.inl rfl | exact Or.inr rfl) (pe_op op_add_str (pe_op op_add_str (pc c_Lblank hr (by omega) rfl ps0 (pa_cons (pv 1) pa_nil)) (pc c_Lloose hr (by omega) rfl ps0 (pa_cons (pv 1) (pa_cons (pv 3) pa_nil)))) (pc c_Lblank hr (by omega) rfl ps0 (pa_cons (pv 1) pa_nil))))
  (pss_one (ps_if (pt_not (pt_val (pc c_Lsame hr (by omega) rfl ps0 (pa_cons (pc c_read hr (by omega) rfl ps0 (pa_cons (pv 4) pa_nil)) (pa_cons (pv 3) pa_nil)))))
    (pss_one (ps_ret pe_bl))
    pss_nil)))))
  (pss_one (ps_ret pe_bl)))), ?_⟩
  refine ⟨_, rfl, a, ns, 0, 63, rfl, hS, by decide, by decide, by decide, by decide, fun b H1 hb g1 B1 => ?_⟩
  refine ⟨4, rfl, by decide, by decide, for_range (lo := 0) (n := 4) (fun i σ H3 => ∃ v2 v3 v4, σ = [some (.ref a), some (.ref b), v2, v3, v4] ∧ Bx H3 b) ⟨none, none, none, rfl, B1⟩ ?_ ?_⟩
  · rintro i σ H3 hi ⟨v2, v3, v4, rfl, B3⟩
    refine ⟨_, rfl, b, 20, 6, rfl, B3, by decide, by decide, by decide, by decide, fun v f H4 g4 B4 hf hs hl4 => ?_⟩
    have hdep : f.depth ≤ 20 := by have := f.depth_le; omega
    have hsz : f.size ≤ 20 := by omega
    have hsh : f.Sh := fun x hx => n6_len (hl4 x hx)
    have hnm : Named f := fun x hx => n6_nm (hl4 x hx)
    refine ⟨_, rfl, b, rfl, B4, fun k H5 hk g5 B5 => ?_⟩
    refine ⟨_, rfl, _, rfl, b, v, f, rfl, B5, g5.dt hf, by omega, hsh, hnm, by omega, fun T H6 g6 B6 tt _ hT => ⟨_, _, rfl, rfl, ?_, ?_⟩⟩
    · rw [s_len, s_len]; exact szle (m := 500) (by simp only [bl_len]; omega) (by omega)
    refine ⟨_, rfl, b, rfl, B6, fun k2 H7 hk2 g7 B7 => ⟨_, _, rfl, rfl, ?_, ?_⟩⟩
    · rw [SX.S_cat, s_len, s_len]; exact szle (m := 500) (by simp only [List.length_append, bl_len]; omega) (by omega)
    rw [SX.S_cat, SX.S_cat, List.append_assoc]
    obtain ⟨g, eg, hrun⟩ := read_tt tt k k2
    refine ⟨_, rfl, bl k ++ (T ++ bl k2), g, rfl, by simp only [List.length_append, bl_len]; omega, hrun, fun u H8 g8 hu => ?_⟩
    rw [eg] at hu
    have hf7 := g7.dt (g6.dt (g5.dt hf))
    exact ⟨_, rfl, u, v, f.d, rfl, hu, g8.dt hf7, by rw [Fm.d_depth]; omega, Fm.d_fine f, _, rfl, iteF ⟨_, _, _, rfl, B7.gr g8⟩⟩
  · rintro σ H3 ⟨v2, v3, v4, rfl, _⟩
    exact q H3
end
theorem all_mk {l : PySem.W.OpenLaw} {w : World} {K : PySem.W.Frag} {h : Heap} {mg : Str → Option Value} {fa : Addr} (X : K.In h) (G : h.Ns mainGlobals mg) (hfa : mg "law" = some (.ref fa))
  {C_Group : Addr}
  {C_Reader : Addr}
  {f_Group___init__ : Addr} {od_Group___init__ an_Group___init__ : Option Addr} {sl_Group___init__ : Array (Option Value)} {oc_Group___init__ kV_Group___init__ dc_Group___init__ pm_Group___init__ cd_Group___init__ ct_Group___init__ : Value}
  {f_Group_add : Addr} {od_Group_add an_Group_add : Option Addr} {sl_Group_add : Array (Option Value)} {oc_Group_add kV_Group_add dc_Group_add pm_Group_add cd_Group_add ct_Group_add : Value}
  {f_Group_formula : Addr} {od_Group_formula an_Group_formula : Option Addr} {sl_Group_formula : Array (Option Value)} {oc_Group_formula kV_Group_formula dc_Group_formula pm_Group_formula cd_Group_formula ct_Group_formula : Value}
  {f_Reader___init__ : Addr} {od_Reader___init__ an_Reader___init__ : Option Addr} {sl_Reader___init__ : Array (Option Value)} {oc_Reader___init__ kV_Reader___init__ dc_Reader___init__ pm_Reader___init__ cd_Reader___init__ ct_Reader___init__ : Value}
  {f_Reader_start : Addr} {od_Reader_start an_Reader_start : Option Addr} {sl_Reader_start : Array (Option Value)} {oc_Reader_start kV_Reader_start dc_Reader_start pm_Reader_start cd_Reader_start ct_Reader_start : Value}
  {f_Reader_go_on : Addr} {od_Reader_go_on an_Reader_go_on : Option Addr} {sl_Reader_go_on : Array (Option Value)} {oc_Reader_go_on kV_Reader_go_on dc_Reader_go_on pm_Reader_go_on cd_Reader_go_on ct_Reader_go_on : Value}
  {f_Reader_read : Addr} {od_Reader_read an_Reader_read : Option Addr} {sl_Reader_read : Array (Option Value)} {oc_Reader_read kV_Reader_read dc_Reader_read pm_Reader_read cd_Reader_read ct_Reader_read : Value}
  {f_read : Addr} {od_read an_read : Option Addr} {sl_read : Array (Option Value)} {oc_read kV_read dc_read pm_read cd_read ct_read : Value}
  {f_Lcell : Addr} {od_Lcell an_Lcell : Option Addr} {sl_Lcell : Array (Option Value)} {oc_Lcell kV_Lcell dc_Lcell pm_Lcell cd_Lcell ct_Lcell : Value}
  {f_Ldigits : Addr} {od_Ldigits an_Ldigits : Option Addr} {sl_Ldigits : Array (Option Value)} {oc_Ldigits kV_Ldigits dc_Ldigits pm_Ldigits cd_Ldigits ct_Ldigits : Value}
  {f_Lbox : Addr} {od_Lbox an_Lbox : Option Addr} {sl_Lbox : Array (Option Value)} {oc_Lbox kV_Lbox dc_Lbox pm_Lbox cd_Lbox ct_Lbox : Value}
  {f_Ldraw : Addr} {od_Ldraw an_Ldraw : Option Addr} {sl_Ldraw : Array (Option Value)} {oc_Ldraw kV_Ldraw dc_Ldraw pm_Ldraw cd_Ldraw ct_Ldraw : Value}
  {f_Lput : Addr} {od_Lput an_Lput : Option Addr} {sl_Lput : Array (Option Value)} {oc_Lput kV_Lput dc_Lput pm_Lput cd_Lput ct_Lput : Value}
  {f_Lany : Addr} {od_Lany an_Lany : Option Addr} {sl_Lany : Array (Option Value)} {oc_Lany kV_Lany dc_Lany pm_Lany cd_Lany ct_Lany : Value}
  {f_Llettered : Addr} {od_Llettered an_Llettered : Option Addr} {sl_Llettered : Array (Option Value)} {oc_Llettered kV_Llettered dc_Llettered pm_Llettered cd_Llettered ct_Llettered : Value}
  {f_Lblank : Addr} {od_Lblank an_Lblank : Option Addr} {sl_Lblank : Array (Option Value)} {oc_Lblank kV_Lblank dc_Lblank pm_Lblank cd_Lblank ct_Lblank : Value}
  {f_Lloose_part : Addr} {od_Lloose_part an_Lloose_part : Option Addr} {sl_Lloose_part : Array (Option Value)} {oc_Lloose_part kV_Lloose_part dc_Lloose_part pm_Lloose_part cd_Lloose_part ct_Lloose_part : Value}
  {f_Lloose : Addr} {od_Lloose an_Lloose : Option Addr} {sl_Lloose : Array (Option Value)} {oc_Lloose kV_Lloose dc_Lloose pm_Lloose cd_Lloose ct_Lloose : Value}
  {f_Lsame : Addr} {od_Lsame an_Lsame : Option Addr} {sl_Lsame : Array (Option Value)} {oc_Lsame kV_Lsame dc_Lsame pm_Lsame cd_Lsame ct_Lsame : Value}
  {f_law : Addr} {od_law an_law : Option Addr} {sl_law : Array (Option Value)} {oc_law kV_law dc_law pm_law cd_law ct_law : Value}
  {u_SMALL : Value}
  {u_DIGITS : Value}
  (a_Group : PySem.W.nsIn K mainGlobals "Group" = some (some (.ref C_Group)))
  (pg_Group : PySem.W.plainGet K C_Group Str.empty = true)
  (hd_Group : PySem.W.hasDictIn K C_Group = true)
  (po_Group : PySem.W.plainOver K C_Group = true)
  (sa_Group : PySem.W.findIn K (.ref C_Group) "__setattr__" = some (some (.builtin "object.__setattr__")))
  (mk_Group : PySem.W.makesIn K C_Group = true)
  (kc_Group : PySem.W.keepIn K (.ref C_Group) = true)
  (n_Group_parts : PySem.W.findIn K (.ref C_Group) "parts" = some none)
  (n_Group_negations : PySem.W.findIn K (.ref C_Group) "negations" = some none)
  (a_Reader : PySem.W.nsIn K mainGlobals "Reader" = some (some (.ref C_Reader)))
  (pg_Reader : PySem.W.plainGet K C_Reader Str.empty = true)
  (hd_Reader : PySem.W.hasDictIn K C_Reader = true)
  (po_Reader : PySem.W.plainOver K C_Reader = true)
  (sa_Reader : PySem.W.findIn K (.ref C_Reader) "__setattr__" = some (some (.builtin "object.__setattr__")))
  (mk_Reader : PySem.W.makesIn K C_Reader = true)
  (kc_Reader : PySem.W.keepIn K (.ref C_Reader) = true)
  (n_Reader_text : PySem.W.findIn K (.ref C_Reader) "text" = some none)
  (n_Reader_place : PySem.W.findIn K (.ref C_Reader) "place" = some none)
  (n_Reader_groups : PySem.W.findIn K (.ref C_Reader) "groups" = some none)
  (n_Reader_wants : PySem.W.findIn K (.ref C_Reader) "wants" = some none)
  (a_Group___init__ : PySem.W.findIn K (.ref C_Group) "__init__" = some (some (.ref f_Group___init__)))
  (i_Group___init__ : PySem.W.isFn K (.ref f_Group___init__) = true)
  (l_Group___init__ : K.lookup f_Group___init__ = some ⟨oc_Group___init__, od_Group___init__, .func (PySem.W.fnOf "__init__" "Group.__init__" (defArgs s_Group___init__) (defBody s_Group___init__) (defScope s_Group___init__) .none kV_Group___init__ dc_Group___init__ pm_Group___init__ an_Group___init__ cd_Group___init__ ct_Group___init__), sl_Group___init__⟩)
  (c_Group___init__ : PySem.W.codeIn K cd_Group___init__ "Group.__init__" = true)
  (k_Group___init__ : PySem.W.keepIn K (.ref f_Group___init__) = true)
  (a_Group_add : PySem.W.findIn K (.ref C_Group) "add" = some (some (.ref f_Group_add)))
  (i_Group_add : PySem.W.isFn K (.ref f_Group_add) = true)
  (l_Group_add : K.lookup f_Group_add = some ⟨oc_Group_add, od_Group_add, .func (PySem.W.fnOf "add" "Group.add" (defArgs s_Group_add) (defBody s_Group_add) (defScope s_Group_add) .none kV_Group_add dc_Group_add pm_Group_add an_Group_add cd_Group_add ct_Group_add), sl_Group_add⟩)
  (c_Group_add : PySem.W.codeIn K cd_Group_add "Group.add" = true)
  (k_Group_add : PySem.W.keepIn K (.ref f_Group_add) = true)
  (a_Group_formula : PySem.W.findIn K (.ref C_Group) "formula" = some (some (.ref f_Group_formula)))
  (i_Group_formula : PySem.W.isFn K (.ref f_Group_formula) = true)
  (l_Group_formula : K.lookup f_Group_formula = some ⟨oc_Group_formula, od_Group_formula, .func (PySem.W.fnOf "formula" "Group.formula" (defArgs s_Group_formula) (defBody s_Group_formula) (defScope s_Group_formula) .none kV_Group_formula dc_Group_formula pm_Group_formula an_Group_formula cd_Group_formula ct_Group_formula), sl_Group_formula⟩)
  (c_Group_formula : PySem.W.codeIn K cd_Group_formula "Group.formula" = true)
  (k_Group_formula : PySem.W.keepIn K (.ref f_Group_formula) = true)
  (a_Reader___init__ : PySem.W.findIn K (.ref C_Reader) "__init__" = some (some (.ref f_Reader___init__)))
  (i_Reader___init__ : PySem.W.isFn K (.ref f_Reader___init__) = true)
  (l_Reader___init__ : K.lookup f_Reader___init__ = some ⟨oc_Reader___init__, od_Reader___init__, .func (PySem.W.fnOf "__init__" "Reader.__init__" (defArgs s_Reader___init__) (defBody s_Reader___init__) (defScope s_Reader___init__) .none kV_Reader___init__ dc_Reader___init__ pm_Reader___init__ an_Reader___init__ cd_Reader___init__ ct_Reader___init__), sl_Reader___init__⟩)
  (c_Reader___init__ : PySem.W.codeIn K cd_Reader___init__ "Reader.__init__" = true)
  (k_Reader___init__ : PySem.W.keepIn K (.ref f_Reader___init__) = true)
  (a_Reader_start : PySem.W.findIn K (.ref C_Reader) "start" = some (some (.ref f_Reader_start)))
  (i_Reader_start : PySem.W.isFn K (.ref f_Reader_start) = true)
  (l_Reader_start : K.lookup f_Reader_start = some ⟨oc_Reader_start, od_Reader_start, .func (PySem.W.fnOf "start" "Reader.start" (defArgs s_Reader_start) (defBody s_Reader_start) (defScope s_Reader_start) .none kV_Reader_start dc_Reader_start pm_Reader_start an_Reader_start cd_Reader_start ct_Reader_start), sl_Reader_start⟩)
  (c_Reader_start : PySem.W.codeIn K cd_Reader_start "Reader.start" = true)
  (k_Reader_start : PySem.W.keepIn K (.ref f_Reader_start) = true)
  (a_Reader_go_on : PySem.W.findIn K (.ref C_Reader) "go_on" = some (some (.ref f_Reader_go_on)))
  (i_Reader_go_on : PySem.W.isFn K (.ref f_Reader_go_on) = true)
  (l_Reader_go_on : K.lookup f_Reader_go_on = some ⟨oc_Reader_go_on, od_Reader_go_on, .func (PySem.W.fnOf "go_on" "Reader.go_on" (defArgs s_Reader_go_on) (defBody s_Reader_go_on) (defScope s_Reader_go_on) .none kV_Reader_go_on dc_Reader_go_on pm_Reader_go_on an_Reader_go_on cd_Reader_go_on ct_Reader_go_on), sl_Reader_go_on⟩)
  (c_Reader_go_on : PySem.W.codeIn K cd_Reader_go_on "Reader.go_on" = true)
  (k_Reader_go_on : PySem.W.keepIn K (.ref f_Reader_go_on) = true)
  (a_Reader_read : PySem.W.findIn K (.ref C_Reader) "read" = some (some (.ref f_Reader_read)))
  (i_Reader_read : PySem.W.isFn K (.ref f_Reader_read) = true)
  (l_Reader_read : K.lookup f_Reader_read = some ⟨oc_Reader_read, od_Reader_read, .func (PySem.W.fnOf "read" "Reader.read" (defArgs s_Reader_read) (defBody s_Reader_read) (defScope s_Reader_read) .none kV_Reader_read dc_Reader_read pm_Reader_read an_Reader_read cd_Reader_read ct_Reader_read), sl_Reader_read⟩)
  (c_Reader_read : PySem.W.codeIn K cd_Reader_read "Reader.read" = true)
  (k_Reader_read : PySem.W.keepIn K (.ref f_Reader_read) = true)
  (a_read : PySem.W.nsIn K mainGlobals "read" = some (some (.ref f_read)))
  (l_read : K.lookup f_read = some ⟨oc_read, od_read, .func (PySem.W.fnOf "read" "read" (defArgs s_read) (defBody s_read) (defScope s_read) .none kV_read dc_read pm_read an_read cd_read ct_read), sl_read⟩)
  (c_read : PySem.W.codeIn K cd_read "read" = true)
  (k_read : PySem.W.keepIn K (.ref f_read) = true)
  (a_Lcell : PySem.W.nsIn K mainGlobals "_law_cell" = some (some (.ref f_Lcell)))
  (l_Lcell : K.lookup f_Lcell = some ⟨oc_Lcell, od_Lcell, .func (PySem.W.fnOf "_law_cell" "_law_cell" (defArgs s_Lcell) (defBody s_Lcell) (defScope s_Lcell) .none kV_Lcell dc_Lcell pm_Lcell an_Lcell cd_Lcell ct_Lcell), sl_Lcell⟩)
  (c_Lcell : PySem.W.codeIn K cd_Lcell "_law_cell" = true)
  (k_Lcell : PySem.W.keepIn K (.ref f_Lcell) = true)
  (a_Ldigits : PySem.W.nsIn K mainGlobals "_law_digits" = some (some (.ref f_Ldigits)))
  (l_Ldigits : K.lookup f_Ldigits = some ⟨oc_Ldigits, od_Ldigits, .func (PySem.W.fnOf "_law_digits" "_law_digits" (defArgs s_Ldigits) (defBody s_Ldigits) (defScope s_Ldigits) .none kV_Ldigits dc_Ldigits pm_Ldigits an_Ldigits cd_Ldigits ct_Ldigits), sl_Ldigits⟩)
  (c_Ldigits : PySem.W.codeIn K cd_Ldigits "_law_digits" = true)
  (k_Ldigits : PySem.W.keepIn K (.ref f_Ldigits) = true)
  (a_Lbox : PySem.W.nsIn K mainGlobals "_law_box" = some (some (.ref f_Lbox)))
  (l_Lbox : K.lookup f_Lbox = some ⟨oc_Lbox, od_Lbox, .func (PySem.W.fnOf "_law_box" "_law_box" (defArgs s_Lbox) (defBody s_Lbox) (defScope s_Lbox) .none kV_Lbox dc_Lbox pm_Lbox an_Lbox cd_Lbox ct_Lbox), sl_Lbox⟩)
  (c_Lbox : PySem.W.codeIn K cd_Lbox "_law_box" = true)
  (k_Lbox : PySem.W.keepIn K (.ref f_Lbox) = true)
  (a_Ldraw : PySem.W.nsIn K mainGlobals "_law_draw" = some (some (.ref f_Ldraw)))
  (l_Ldraw : K.lookup f_Ldraw = some ⟨oc_Ldraw, od_Ldraw, .func (PySem.W.fnOf "_law_draw" "_law_draw" (defArgs s_Ldraw) (defBody s_Ldraw) (defScope s_Ldraw) .none kV_Ldraw dc_Ldraw pm_Ldraw an_Ldraw cd_Ldraw ct_Ldraw), sl_Ldraw⟩)
  (c_Ldraw : PySem.W.codeIn K cd_Ldraw "_law_draw" = true)
  (k_Ldraw : PySem.W.keepIn K (.ref f_Ldraw) = true)
  (a_Lput : PySem.W.nsIn K mainGlobals "_law_put" = some (some (.ref f_Lput)))
  (l_Lput : K.lookup f_Lput = some ⟨oc_Lput, od_Lput, .func (PySem.W.fnOf "_law_put" "_law_put" (defArgs s_Lput) (defBody s_Lput) (defScope s_Lput) .none kV_Lput dc_Lput pm_Lput an_Lput cd_Lput ct_Lput), sl_Lput⟩)
  (c_Lput : PySem.W.codeIn K cd_Lput "_law_put" = true)
  (k_Lput : PySem.W.keepIn K (.ref f_Lput) = true)
  (a_Lany : PySem.W.nsIn K mainGlobals "_law_any" = some (some (.ref f_Lany)))
  (l_Lany : K.lookup f_Lany = some ⟨oc_Lany, od_Lany, .func (PySem.W.fnOf "_law_any" "_law_any" (defArgs s_Lany) (defBody s_Lany) (defScope s_Lany) .none kV_Lany dc_Lany pm_Lany an_Lany cd_Lany ct_Lany), sl_Lany⟩)
  (c_Lany : PySem.W.codeIn K cd_Lany "_law_any" = true)
  (k_Lany : PySem.W.keepIn K (.ref f_Lany) = true)
  (a_Llettered : PySem.W.nsIn K mainGlobals "_law_lettered" = some (some (.ref f_Llettered)))
  (l_Llettered : K.lookup f_Llettered = some ⟨oc_Llettered, od_Llettered, .func (PySem.W.fnOf "_law_lettered" "_law_lettered" (defArgs s_Llettered) (defBody s_Llettered) (defScope s_Llettered) .none kV_Llettered dc_Llettered pm_Llettered an_Llettered cd_Llettered ct_Llettered), sl_Llettered⟩)
  (c_Llettered : PySem.W.codeIn K cd_Llettered "_law_lettered" = true)
  (k_Llettered : PySem.W.keepIn K (.ref f_Llettered) = true)
  (a_Lblank : PySem.W.nsIn K mainGlobals "_law_blank" = some (some (.ref f_Lblank)))
  (l_Lblank : K.lookup f_Lblank = some ⟨oc_Lblank, od_Lblank, .func (PySem.W.fnOf "_law_blank" "_law_blank" (defArgs s_Lblank) (defBody s_Lblank) (defScope s_Lblank) .none kV_Lblank dc_Lblank pm_Lblank an_Lblank cd_Lblank ct_Lblank), sl_Lblank⟩)
  (c_Lblank : PySem.W.codeIn K cd_Lblank "_law_blank" = true)
  (k_Lblank : PySem.W.keepIn K (.ref f_Lblank) = true)
  (a_Lloose_part : PySem.W.nsIn K mainGlobals "_law_loose_part" = some (some (.ref f_Lloose_part)))
  (l_Lloose_part : K.lookup f_Lloose_part = some ⟨oc_Lloose_part, od_Lloose_part, .func (PySem.W.fnOf "_law_loose_part" "_law_loose_part" (defArgs s_Lloose_part) (defBody s_Lloose_part) (defScope s_Lloose_part) .none kV_Lloose_part dc_Lloose_part pm_Lloose_part an_Lloose_part cd_Lloose_part ct_Lloose_part), sl_Lloose_part⟩)
  (c_Lloose_part : PySem.W.codeIn K cd_Lloose_part "_law_loose_part" = true)
  (k_Lloose_part : PySem.W.keepIn K (.ref f_Lloose_part) = true)
  (a_Lloose : PySem.W.nsIn K mainGlobals "_law_loose" = some (some (.ref f_Lloose)))
  (l_Lloose : K.lookup f_Lloose = some ⟨oc_Lloose, od_Lloose, .func (PySem.W.fnOf "_law_loose" "_law_loose" (defArgs s_Lloose) (defBody s_Lloose) (defScope s_Lloose) .none kV_Lloose dc_Lloose pm_Lloose an_Lloose cd_Lloose ct_Lloose), sl_Lloose⟩)
  (c_Lloose : PySem.W.codeIn K cd_Lloose "_law_loose" = true)
  (k_Lloose : PySem.W.keepIn K (.ref f_Lloose) = true)
  (a_Lsame : PySem.W.nsIn K mainGlobals "_law_same" = some (some (.ref f_Lsame)))
  (l_Lsame : K.lookup f_Lsame = some ⟨oc_Lsame, od_Lsame, .func (PySem.W.fnOf "_law_same" "_law_same" (defArgs s_Lsame) (defBody s_Lsame) (defScope s_Lsame) .none kV_Lsame dc_Lsame pm_Lsame an_Lsame cd_Lsame ct_Lsame), sl_Lsame⟩)
  (c_Lsame : PySem.W.codeIn K cd_Lsame "_law_same" = true)
  (k_Lsame : PySem.W.keepIn K (.ref f_Lsame) = true)
  (a_law : PySem.W.nsIn K mainGlobals "law" = some (some (.ref f_law)))
  (l_law : K.lookup f_law = some ⟨oc_law, od_law, .func (PySem.W.fnOf "law" "law" (defArgs s_law) (defBody s_law) (defScope s_law) .none kV_law dc_law pm_law an_law cd_law ct_law), sl_law⟩)
  (c_law : PySem.W.codeIn K cd_law "law" = true)
  (k_law : PySem.W.keepIn K (.ref f_law) = true)
  (z_bool : PySem.W.nsIn K mainGlobals "bool" = some none)
  (z_int : PySem.W.nsIn K mainGlobals "int" = some none)
  (z_isinstance : PySem.W.nsIn K mainGlobals "isinstance" = some none)
  (z_len : PySem.W.nsIn K mainGlobals "len" = some none)
  (z_range : PySem.W.nsIn K mainGlobals "range" = some none)
  (z_str : PySem.W.nsIn K mainGlobals "str" = some none)
  (z_tuple : PySem.W.nsIn K mainGlobals "tuple" = some none)
  (g_SMALL : PySem.W.nsIn K mainGlobals "SMALL" = some (some u_SMALL))
  (r_SMALL : RelV (.str "abcdefghijklmnopqrstuvwxyz") u_SMALL)
  (g_DIGITS : PySem.W.nsIn K mainGlobals "DIGITS" = some (some u_DIGITS))
  (r_DIGITS : RelV (.str "0123456789") u_DIGITS) :
  ∃ fd : FuncData, (∀ (s : Shared) (v : Value), BindsTo s fd ⟨[v], []⟩ [("_law_script", v)]) ∧ ∀ base : Heap, K.In base → base.Ns mainGlobals mg → FnOk l.prog w K mg base CX0 130 fa fd ["_law_script"] (spLaw K) := by
  have e := hfa.symm.trans (PySem.W.mg_of X G a_law)
  cases e
  have cl_Group : Cls K C_Group := ⟨pg_Group, hd_Group, po_Group, sa_Group⟩
  have m_Group : mg "Group" = some (.ref C_Group) := PySem.W.mg_of X G a_Group
  have cl_Reader : Cls K C_Reader := ⟨pg_Reader, hd_Reader, po_Reader, sa_Reader⟩
  have m_Reader : mg "Reader" = some (.ref C_Reader) := PySem.W.mg_of X G a_Reader
  have D_Group___init__ : Dm K C_Group "__init__" "Group.__init__" s_Group___init__ ["self"] := dm_mk (fun _ _ _ _ _ _ us hl => match us, hl with | [_], _ => rfl) a_Group___init__ i_Group___init__ l_Group___init__ c_Group___init__ k_Group___init__
  have D_Group_add : Dm K C_Group "add" "Group.add" s_Group_add ["self", "formula"] := dm_mk (fun _ _ _ _ _ _ us hl => match us, hl with | [_, _], _ => rfl) a_Group_add i_Group_add l_Group_add c_Group_add k_Group_add
  have D_Group_formula : Dm K C_Group "formula" "Group.formula" s_Group_formula ["self"] := dm_mk (fun _ _ _ _ _ _ us hl => match us, hl with | [_], _ => rfl) a_Group_formula i_Group_formula l_Group_formula c_Group_formula k_Group_formula
  have D_Reader___init__ : Dm K C_Reader "__init__" "Reader.__init__" s_Reader___init__ ["self", "text"] := dm_mk (fun _ _ _ _ _ _ us hl => match us, hl with | [_, _], _ => rfl) a_Reader___init__ i_Reader___init__ l_Reader___init__ c_Reader___init__ k_Reader___init__
  have D_Reader_start : Dm K C_Reader "start" "Reader.start" s_Reader_start ["self", "sign"] := dm_mk (fun _ _ _ _ _ _ us hl => match us, hl with | [_, _], _ => rfl) a_Reader_start i_Reader_start l_Reader_start c_Reader_start k_Reader_start
  have D_Reader_go_on : Dm K C_Reader "go_on" "Reader.go_on" s_Reader_go_on ["self", "sign"] := dm_mk (fun _ _ _ _ _ _ us hl => match us, hl with | [_, _], _ => rfl) a_Reader_go_on i_Reader_go_on l_Reader_go_on c_Reader_go_on k_Reader_go_on
  have D_Reader_read : Dm K C_Reader "read" "Reader.read" s_Reader_read ["self"] := dm_mk (fun _ _ _ _ _ _ us hl => match us, hl with | [_], _ => rfl) a_Reader_read i_Reader_read l_Reader_read c_Reader_read k_Reader_read
  have D_read : Df K mg "read" s_read ["text"] := df_mk X G (fun _ _ _ _ _ _ us hl => match us, hl with | [_], _ => rfl) a_read l_read c_read k_read
  have D_Lcell : Df K mg "_law_cell" s_Lcell ["_law_script", "_law_k"] := df_mk X G (fun _ _ _ _ _ _ us hl => match us, hl with | [_, _], _ => rfl) a_Lcell l_Lcell c_Lcell k_Lcell
  have D_Ldigits : Df K mg "_law_digits" s_Ldigits ["_law_script", "_law_first", "_law_last"] := df_mk X G (fun _ _ _ _ _ _ us hl => match us, hl with | [_, _, _], _ => rfl) a_Ldigits l_Ldigits c_Ldigits k_Ldigits
  have D_Lbox : Df K mg "_law_box" s_Lbox ["_law_script", "_law_first", "_law_last"] := df_mk X G (fun _ _ _ _ _ _ us hl => match us, hl with | [_, _, _], _ => rfl) a_Lbox l_Lbox c_Lbox k_Lbox
  have D_Ldraw : Df K mg "_law_draw" s_Ldraw ["_law_box_here", "_law_many"] := df_mk X G (fun _ _ _ _ _ _ us hl => match us, hl with | [_, _], _ => rfl) a_Ldraw l_Ldraw c_Ldraw k_Ldraw
  have D_Lput : Df K mg "_law_put" s_Lput ["_law_formula", "_law_table"] := df_mk X G (fun _ _ _ _ _ _ us hl => match us, hl with | [_, _], _ => rfl) a_Lput l_Lput c_Lput k_Lput
  have D_Lany : Df K mg "_law_any" s_Lany ["_law_box_here", "_law_room", "_law_many"] := df_mk X G (fun _ _ _ _ _ _ us hl => match us, hl with | [_, _, _], _ => rfl) a_Lany l_Lany c_Lany k_Lany
  have D_Llettered : Df K mg "_law_lettered" s_Llettered ["_law_box_here", "_law_room", "_law_many"] := df_mk X G (fun _ _ _ _ _ _ us hl => match us, hl with | [_, _, _], _ => rfl) a_Llettered l_Llettered c_Llettered k_Llettered
  have D_Lblank : Df K mg "_law_blank" s_Lblank ["_law_box_here"] := df_mk X G (fun _ _ _ _ _ _ us hl => match us, hl with | [_], _ => rfl) a_Lblank l_Lblank c_Lblank k_Lblank
  have D_Lloose_part : Df K mg "_law_loose_part" s_Lloose_part ["_law_box_here", "_law_formula"] := df_mk X G (fun _ _ _ _ _ _ us hl => match us, hl with | [_, _], _ => rfl) a_Lloose_part l_Lloose_part c_Lloose_part k_Lloose_part
  have D_Lloose : Df K mg "_law_loose" s_Lloose ["_law_box_here", "_law_formula"] := df_mk X G (fun _ _ _ _ _ _ us hl => match us, hl with | [_, _], _ => rfl) a_Lloose l_Lloose c_Lloose k_Lloose
  have D_Lsame : Df K mg "_law_same" s_Lsame ["_law_actual", "_law_expected"] := df_mk X G (fun _ _ _ _ _ _ us hl => match us, hl with | [_, _], _ => rfl) a_Lsame l_Lsame c_Lsame k_Lsame
  have F_law := fun_mk (st := s_law) l_law c_law k_law
  have B : Bn mg := { bool := PySem.W.mg_none_of X G z_bool, int := PySem.W.mg_none_of X G z_int, isinstance := PySem.W.mg_none_of X G z_isinstance, len := PySem.W.mg_none_of X G z_len, range := PySem.W.mg_none_of X G z_range, str := PySem.W.mg_none_of X G z_str, tuple := PySem.W.mg_none_of X G z_tuple, g_SMALL := ⟨_, PySem.W.mg_of X G g_SMALL, r_SMALL⟩, g_DIGITS := ⟨_, PySem.W.mg_of X G g_DIGITS, r_DIGITS⟩ }
  refine ⟨PySem.W.fnOf "law" "law" (defArgs s_law) (defBody s_law) (defScope s_law) .none kV_law dc_law pm_law an_law cd_law ct_law, fun s v => .of_eq rfl, fun base _ _ => ?_⟩
  have c1 := ok_Lcell (P := l.prog) (w := w) (base := base) B D_Lcell
  have c2 := ok_Ldraw (P := l.prog) (w := w) (K := K) (base := base) B D_Ldraw
  have c3 := ok_Ldigits (P := l.prog) (w := w) (base := base) B D_Ldigits c1
  have c4 := ok_Lbox (P := l.prog) (w := w) (base := base) B D_Lbox c3
  have c5 := ok_Lany (P := l.prog) (w := w) (base := base) B D_Lany c2 60
  have c6 := ok_Lput (P := l.prog) (w := w) (base := base) B D_Lput 60
  have c7 := ok_Llettered (P := l.prog) (w := w) (base := base) B D_Llettered c2 c6 c5
  have c9 := ok_Lsame (P := l.prog) (w := w) (base := base) B D_Lsame 65
  have tg : TG K mg C_Group := ⟨cl_Group, n_Group_parts, n_Group_negations⟩
  have tr : TR K mg C_Reader := ⟨cl_Reader, n_Reader_text, n_Reader_place, n_Reader_groups, n_Reader_wants⟩
  have r1 := ok_Gi (P := l.prog) (w := w) (base := base) tg D_Group___init__ mk_Group kc_Group m_Group
  have r2 := ok_Ga (P := l.prog) (w := w) (base := base) B tg D_Group_add
  have r3 := ok_Gf (P := l.prog) (w := w) (base := base) tg D_Group_formula
  have r4 := ok_Ri (P := l.prog) (w := w) (base := base) tr D_Reader___init__ mk_Reader kc_Reader m_Reader r1
  have r5 := ok_Rs (P := l.prog) (w := w) (base := base) B tg tr D_Reader_start r1 r2
  have r6 := ok_Rg (P := l.prog) (w := w) (base := base) B tg tr D_Reader_go_on r3 r2
  have r7 := ok_Rr (P := l.prog) (w := w) (base := base) B tg tr D_Reader_read r3 r5 r6
  have r8 := ok_read (P := l.prog) (w := w) (base := base) B tr D_read r7 r4

  have b1 := ok_Lblank (P := l.prog) (w := w) (K := K) (base := base) B D_Lblank c2
  have b2 := ok_Lloose (P := l.prog) (w := w) (base := base) B D_Lloose D_Lloose_part c2 b1 60
  exact ok_law B F_law c4 c7 b1 b2 c9 r8
theorem walk {l : PySem.W.OpenLaw} {q : Program} {loose : List Str} {XP : (Str → Option Value) → Heap → Prop} {YP : World → Heap → Prop} {d : DefRec} {K : Params → PySem.W.Frag} (hn : l.most = some 63) (hdf : d.params.defaults = [])
    (hY : ∀ (w : World) (h : Heap), YP w h → (K w.params).In h)
    (F : ∀ (w : World) (mg : Str → Option Value) (fa : Addr) (h : Heap), (K w.params).In h → h.Ns mainGlobals mg → mg d.name = some (.ref fa) →
      ∃ fd : FuncData, (∀ (s : Shared) (u : Value), BindsTo s fd ⟨[u], []⟩ [("_law_script", u)]) ∧ ∀ base : Heap, (K w.params).In base → base.Ns mainGlobals mg → FnOk l.prog w (K w.params) mg base CX0 130 fa fd ["_law_script"] (spLaw (K w.params))) :
    PySem.W.WalkO q loose XP YP l.row.toRowW d [] (fun f vs => PySem.call f vs) :=
  L2.walk_of (n := 63) (k := 130) (x := "_law_script") (CX := fun _ => CX0) (sp := fun w => spLaw (K w.params)) hn (by decide) hdf ⟨rfl, by decide, by decide⟩ hY F (fun _ _ a ns hl _ hS => ⟨a, ns, rfl, hS, hl, fun _ => rfl⟩) fun _ _ _ _ _ z => z
end Cs
open PySem PySem.W PyProof.Rows
set_option maxRecDepth 100000 in
set_option maxHeartbeats 0 in
theorem PySem.Challenge.cw_conceptscript_k01_other_texts_of_a_formu_holds : PySem.Challenge.rw_conceptscript_k01_other_texts_of_a_formu.Holds := by
  w_on; o_law; k_head; (case hw => w_witness2)
  k_fill
  refine Cs.walk (l := PySem.Challenge.rw_conceptscript_k01_other_texts_of_a_formu) rfl rfl (fun w h Y => PySem.W.kIn_of Y) ?F
  case F =>
    intro w mg fa h KX G hmg
    refine' Cs.all_mk KX G hmg ?a_Group ?pg_Group ?hd_Group ?po_Group ?sa_Group ?mk_Group ?kc_Group ?n_Group_parts ?n_Group_negations ?a_Reader ?pg_Reader ?hd_Reader ?po_Reader ?sa_Reader ?mk_Reader ?kc_Reader ?n_Reader_text ?n_Reader_place ?n_Reader_groups ?n_Reader_wants ?a_Group___init__ ?i_Group___init__ ?l_Group___init__ ?c_Group___init__ ?k_Group___init__ ?a_Group_add ?i_Group_add ?l_Group_add ?c_Group_add ?k_Group_add ?a_Group_formula ?i_Group_formula ?l_Group_formula ?c_Group_formula ?k_Group_formula ?a_Reader___init__ ?i_Reader___init__ ?l_Reader___init__ ?c_Reader___init__ ?k_Reader___init__ ?a_Reader_start ?i_Reader_start ?l_Reader_start ?c_Reader_start ?k_Reader_start ?a_Reader_go_on ?i_Reader_go_on ?l_Reader_go_on ?c_Reader_go_on ?k_Reader_go_on ?a_Reader_read ?i_Reader_read ?l_Reader_read ?c_Reader_read ?k_Reader_read ?a_read ?l_read ?c_read ?k_read ?a_Lcell ?l_Lcell ?c_Lcell ?k_Lcell ?a_Ldigits ?l_Ldigits ?c_Ldigits ?k_Ldigits ?a_Lbox ?l_Lbox ?c_Lbox ?k_Lbox ?a_Ldraw ?l_Ldraw ?c_Ldraw ?k_Ldraw ?a_Lput ?l_Lput ?c_Lput ?k_Lput ?a_Lany ?l_Lany ?c_Lany ?k_Lany ?a_Llettered ?l_Llettered ?c_Llettered ?k_Llettered ?a_Lblank ?l_Lblank ?c_Lblank ?k_Lblank ?a_Lloose_part ?l_Lloose_part ?c_Lloose_part ?k_Lloose_part ?a_Lloose ?l_Lloose ?c_Lloose ?k_Lloose ?a_Lsame ?l_Lsame ?c_Lsame ?k_Lsame ?a_law ?l_law ?c_law ?k_law ?z_bool ?z_int ?z_isinstance ?z_len ?z_range ?z_str ?z_tuple ?g_SMALL ?r_SMALL ?g_DIGITS ?r_DIGITS
    (case a_Group => k_is)
    (case pg_Group => k_is)
    (case hd_Group => k_is)
    (case po_Group => k_is)
    (case sa_Group => k_is)
    (case mk_Group => k_is)
    (case kc_Group => k_is)
    (case n_Group_parts => k_is)
    (case n_Group_negations => k_is)
    (case a_Reader => k_is)
    (case pg_Reader => k_is)
    (case hd_Reader => k_is)
    (case po_Reader => k_is)
    (case sa_Reader => k_is)
    (case mk_Reader => k_is)
    (case kc_Reader => k_is)
    (case n_Reader_text => k_is)
    (case n_Reader_place => k_is)
    (case n_Reader_groups => k_is)
    (case n_Reader_wants => k_is)
    (case a_Group___init__ => k_is)
    (case i_Group___init__ => k_is)
    (case l_Group___init__ => k_is)
    (case c_Group___init__ => k_is)
    (case k_Group___init__ => k_is)
    (case a_Group_add => k_is)
    (case i_Group_add => k_is)
    (case l_Group_add => k_is)
    (case c_Group_add => k_is)
    (case k_Group_add => k_is)
    (case a_Group_formula => k_is)
    (case i_Group_formula => k_is)
    (case l_Group_formula => k_is)
    (case c_Group_formula => k_is)
    (case k_Group_formula => k_is)
    (case a_Reader___init__ => k_is)
    (case i_Reader___init__ => k_is)
    (case l_Reader___init__ => k_is)
    (case c_Reader___init__ => k_is)
    (case k_Reader___init__ => k_is)
    (case a_Reader_start => k_is)
    (case i_Reader_start => k_is)
    (case l_Reader_start => k_is)
    (case c_Reader_start => k_is)
    (case k_Reader_start => k_is)
    (case a_Reader_go_on => k_is)
    (case i_Reader_go_on => k_is)
    (case l_Reader_go_on => k_is)
    (case c_Reader_go_on => k_is)
    (case k_Reader_go_on => k_is)
    (case a_Reader_read => k_is)
    (case i_Reader_read => k_is)
    (case l_Reader_read => k_is)
    (case c_Reader_read => k_is)
    (case k_Reader_read => k_is)
    (case a_read => k_is)
    (case l_read => k_is)
    (case c_read => k_is)
    (case k_read => k_is)
    (case a_Lcell => k_is)
    (case l_Lcell => k_is)
    (case c_Lcell => k_is)
    (case k_Lcell => k_is)
    (case a_Ldigits => k_is)
    (case l_Ldigits => k_is)
    (case c_Ldigits => k_is)
    (case k_Ldigits => k_is)
    (case a_Lbox => k_is)
    (case l_Lbox => k_is)
    (case c_Lbox => k_is)
    (case k_Lbox => k_is)
    (case a_Ldraw => k_is)
    (case l_Ldraw => k_is)
    (case c_Ldraw => k_is)
    (case k_Ldraw => k_is)
    (case a_Lput => k_is)
    (case l_Lput => k_is)
    (case c_Lput => k_is)
    (case k_Lput => k_is)
    (case a_Lany => k_is)
    (case l_Lany => k_is)
    (case c_Lany => k_is)
    (case k_Lany => k_is)
    (case a_Llettered => k_is)
    (case l_Llettered => k_is)
    (case c_Llettered => k_is)
    (case k_Llettered => k_is)
    (case a_Lblank => k_is)
    (case l_Lblank => k_is)
    (case c_Lblank => k_is)
    (case k_Lblank => k_is)
    (case a_Lloose_part => k_is)
    (case l_Lloose_part => k_is)
    (case c_Lloose_part => k_is)
    (case k_Lloose_part => k_is)
    (case a_Lloose => k_is)
    (case l_Lloose => k_is)
    (case c_Lloose => k_is)
    (case k_Lloose => k_is)
    (case a_Lsame => k_is)
    (case l_Lsame => k_is)
    (case c_Lsame => k_is)
    (case k_Lsame => k_is)
    (case a_law => k_is)
    (case l_law => k_is)
    (case c_law => k_is)
    (case k_law => k_is)
    (case z_bool => k_is)
    (case z_int => k_is)
    (case z_isinstance => k_is)
    (case z_len => k_is)
    (case z_range => k_is)
    (case z_str => k_is)
    (case z_tuple => k_is)
    (case g_SMALL => k_is)
    (case r_SMALL => exact ⟨_, rfl⟩)
    (case g_DIGITS => k_is)
    (case r_DIGITS => exact ⟨_, rfl⟩)
#print axioms PySem.Challenge.cw_conceptscript_k01_other_texts_of_a_formu_holds
