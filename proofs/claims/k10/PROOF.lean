import PyProof.Rows.All
import Wide.All
import OpenK.AllK
import Wide.FinOn
import HandS.ForMost
import HandS.IsInst
import HandS.AnyAll
import HandS.CallRecv
import HandS.Codes
import KE.KRevSl
import PyProof.Rows.StrRev
import PyProof.StrBlock2
import HandS.GenList
import PyProof.GenArm
import HandS.EndOwn
import KE.KNest
import PyProof.WalkInts
import PySem.Challenge.RW_conceptscript_k10_formulas_are_drawn
set_option Elab.async false
set_option linter.all false
set_option maxRecDepth 100000
set_option maxHeartbeats 2000000
namespace Cs
open PySem L2

/-! ### heaps that grow: all stays but the addresses of S; tuples, known things and code tables stay in any case -/
structure Gx (S : List Addr) (H H' : Hp) : Prop where
  keep : ∀ a u, a ∉ S → H a = some u → (∀ ps, u ≠ .tbl ps) → H' a = some u
  tup : ∀ a xs, H a = some (.tup xs) → H' a = some (.tup xs)
  frz : ∀ a o u, H a = some (.frz o u) → H' a = some (.frz o u)
  tab : ∀ a, GxR.TabG H a → GxR.TabG H' a
  dom : ∀ a, H' a = none → H a = none
abbrev Gr : Hp → Hp → Prop := Gx []
section
variable {S S' : List Addr} {H H1 H2 H' : Hp} {a p : Addr} {o u : HO} {K : PySem.W.Frag} {xs : List V}
theorem Gx.refl : Gx S H H := ⟨fun _ _ _ h _ => h, fun _ _ h => h, fun _ _ _ h => h, fun _ h => h, fun _ h => h⟩
theorem Gx.trans (x : Gx S H H1) (y : Gx S H1 H2) : Gx S H H2 :=
  ⟨fun a u n h z => y.keep a u n (x.keep a u n h z) z, fun a xs h => y.tup a xs (x.tup a xs h), fun a o u h => y.frz a o u (x.frz a o u h), fun a h => y.tab a (x.tab a h), fun a h => x.dom a (y.dom a h)⟩
theorem Gx.mono (x : Gx S H H1) (h : ∀ a ∈ S, a ∈ S') : Gx S' H H1 := ⟨fun a u n q z => x.keep a u (fun m => n (h a m)) q z, x.tup, x.frz, x.tab, x.dom⟩
theorem Gx.wk (x : Gr H H1) : Gx S H H1 := x.mono fun a h => nomatch h
theorem Gx.new (h : H p = none) : Gx S H (upd H p o) where
  keep := fun a u _ q _ => by rw [upd_ne (ne_of_none q h)]; exact q
  tup := fun a xs q => by rw [upd_ne (ne_of_none q h)]; exact q
  frz := fun a o u q => by rw [upd_ne (ne_of_none q h)]; exact q
  tab := fun a ⟨ps, q, t⟩ => ⟨ps, by rw [upd_ne (ne_of_none q h)]; exact q, t⟩
  dom := fun a q => by
    by_cases e : a = p
    · rw [e]; exact h
    · rw [upd_ne e] at q; exact q
/-- what may be changed at its place -/
def Mt : HO → Bool
  | .tup _ => false | .frz _ _ => false | .tbl _ => false | _ => true
theorem Gx.set (h : H p = some u) (m : Mt u = true) : Gx [p] H (upd H p o) where
  keep := fun a u n q _ => by rw [upd_ne (fun e => n (by rw [e]; exact List.mem_singleton_self _))]; exact q
  tup := fun a xs q => by rw [upd_ne (fun e => by rw [e, h] at q; cases q; cases m)]; exact q
  frz := fun a o u q => by rw [upd_ne (fun e => by rw [e, h] at q; cases q; cases m)]; exact q
  tab := fun a ⟨ps, q, t⟩ => ⟨ps, by rw [upd_ne (fun e => by rw [e, h] at q; cases q; cases m)]; exact q, t⟩
  dom := fun a q => by
    by_cases e : a = p
    · rw [e, upd_same] at q; cases q
    · rw [upd_ne e] at q; exact q
/-- an object that H did not know may change afterwards -/
theorem Gx.drop (x : Gx S H H1) (y : Gx S' H1 H2) (h : ∀ a ∈ S', a ∈ S ∨ H a = none) : Gx S H H2 :=
  ⟨fun a u n q z => y.keep a u (fun m => by
      rcases h a m with k | k
      · exact n k
      · rw [k] at q; cases q) (x.keep a u n q z) z, fun a xs h => y.tup a xs (x.tup a xs h), fun a o u h => y.frz a o u (x.frz a o u h), fun a h => y.tab a (x.tab a h), fun a h => x.dom a (y.dom a h)⟩
theorem Gx.sqT (x : Gx S H H') (h : SqT K H a xs) : SqT K H' a xs := by
  rcases h with (h | ⟨o, h⟩) | h
  · exact .inl (.inl (x.tup _ _ h))
  · exact .inl (.inr ⟨o, x.frz _ _ _ h⟩)
  · exact .inr h
theorem Gx.sqL (x : Gx S H H') (n : a ∉ S) (h : SqL K H a xs) : SqL K H' a xs := by
  rcases h with (h | ⟨o, h⟩) | h
  · exact .inl (.inl (x.keep _ _ n h fun ps e => nomatch e))
  · exact .inl (.inr ⟨o, x.frz _ _ _ h⟩)
  · exact .inr h
theorem Gx.lst (x : Gx S H H') (h : H a = some (.lst xs)) (n : a ∉ S) : H' a = some (.lst xs) := x.keep _ _ n h fun ps e => nomatch e
theorem Gx.sqG (x : Gr H H') (h : SqL K H a xs) : SqL K H' a xs := x.sqL (fun n => nomatch n) h
theorem Gx.ne (x : Gx S H H') (h : H a = some u) (h' : H' p = none) : a ≠ p := fun e => by
  have q := x.dom p h'
  rw [e, q] at h; cases h
end
theorem gr_some {H H' : Hp} (x : Gr H H') {a : Addr} {u : HO} (h : H a = some u) (n : ∀ ps, u ≠ .tbl ps) : H' a = some u := x.keep a u (fun m => nomatch m) h n

/-! ### data of tuples -/
mutual
inductive Dt (K : PySem.W.Frag) (H : Hp) : V → PyData → Prop
  | non : Dt K H .non .none
  | bl (b : Bool) : Dt K H (.bl b) (.bool b)
  | int (i : Int) : Dt K H (.int i) (.int i)
  | str (x : Str) : Dt K H (.str x) (.str x)
  | tup {a : Addr} {xs : List V} {ds : List PyData} : SqT K H a xs → DtAll K H xs ds → Dt K H (.ref a) (.tuple ds)
inductive DtAll (K : PySem.W.Frag) (H : Hp) : List V → List PyData → Prop
  | nil : DtAll K H [] []
  | cons {v : V} {vs : List V} {d : PyData} {ds : List PyData} : Dt K H v d → DtAll K H vs ds → DtAll K H (v :: vs) (d :: ds)
end
section
variable {S : List Addr} {H H' : Hp} {K : PySem.W.Frag}
mutual
theorem Dt.mono (x : Gx S H H') : ∀ (d : PyData) (v : V), Dt K H v d → Dt K H' v d
  | .none, _, h => by cases h; exact .non
  | .bool b, _, h => by cases h; exact .bl b
  | .int i, _, h => by cases h; exact .int i
  | .str s, _, h => by cases h; exact .str s
  | .tuple ds, _, h => by
    cases h with
    | tup q r => exact .tup (x.sqT q) (DtAll.mono x ds _ r)
  | .list _, _, h => by cases h
  | .dict _, _, h => by cases h
theorem DtAll.mono (x : Gx S H H') : ∀ (ds : List PyData) (vs : List V), DtAll K H vs ds → DtAll K H' vs ds
  | [], _, h => by cases h; exact .nil
  | d :: ds, _, h => by
    cases h with
    | cons q r => exact .cons (Dt.mono x d _ q) (DtAll.mono x ds _ r)
end
theorem Gx.dt (x : Gx S H H') {d : PyData} {v : V} (h : Dt K H v d) : Dt K H' v d := Dt.mono x d v h
theorem Gx.dts (x : Gx S H H') {ds : List PyData} {vs : List V} (h : DtAll K H vs ds) : DtAll K H' vs ds := DtAll.mono x ds vs h
mutual
theorem Dt.dp : ∀ (d : PyData) (v : V), Dt K H v d → Dp K H v d
  | .none, _, h => by cases h; exact .non
  | .bool b, _, h => by cases h; exact .bl b
  | .int i, _, h => by cases h; exact .int i
  | .str s, _, h => by cases h; exact .str s
  | .tuple ds, _, h => by
    cases h with
    | tup q r => exact .tup q (DtAll.dp ds _ r)
  | .list _, _, h => by cases h
  | .dict _, _, h => by cases h
theorem DtAll.dp : ∀ (ds : List PyData) (vs : List V), DtAll K H vs ds → DpAll K H vs ds
  | [], _, h => by cases h; exact .nil
  | d :: ds, _, h => by
    cases h with
    | cons q r => exact .cons (Dt.dp d _ q) (DtAll.dp ds _ r)
end
theorem DtAll.len {vs : List V} {ds : List PyData} (h : DtAll K H vs ds) : vs.length = ds.length := by
  induction ds generalizing vs with
  | nil => cases h; rfl
  | cons d ds ih =>
    cases h with
    | cons q r => rw [List.length_cons, List.length_cons, ih r]
theorem DtAll.get : ∀ {ds : List PyData} {vs : List V} {i : Nat} {d : PyData}, DtAll K H vs ds → ds[i]? = some d → ∃ v, vs[i]? = some v ∧ Dt K H v d
  | [], _, i, d, _, h => by simp at h
  | d :: ds, _, 0, e, .cons q r, h => by
    simp at h; subst h
    exact ⟨_, rfl, q⟩
  | d :: ds, _, i + 1, e, .cons q r, h => by
    obtain ⟨v, h1, h2⟩ := DtAll.get (i := i) r (by simpa using h)
    exact ⟨v, by simpa using h1, h2⟩
theorem Dt.tupI {v : V} {ds : List PyData} (h : Dt K H v (.tuple ds)) : ∃ a xs, v = .ref a ∧ SqT K H a xs ∧ DtAll K H xs ds := by
  cases h with
  | tup q r => exact ⟨_, _, rfl, q, r⟩
theorem DtAll.app : ∀ {ds es : List PyData} {vs ws : List V}, DtAll K H vs ds → DtAll K H ws es → DtAll K H (vs ++ ws) (ds ++ es)
  | [], _, _, _, .nil, s => s
  | _ :: _, _, _, _, .cons q r, s => .cons q (DtAll.app r s)
end

/-! ### equality of data -/
mutual
def hasDict : PyData → Bool
  | .dict _ => true
  | .list xs => hasDicts xs
  | .tuple xs => hasDicts xs
  | _ => false
def hasDicts : List PyData → Bool
  | [] => false
  | x :: xs => hasDict x || hasDicts xs
end

/-! ### formulas -/
inductive Fm where
  | lt (n : Str)
  | ng (p : Fm)
  | im (p q : Fm)
  deriving DecidableEq
namespace Fm
def size : Fm → Nat
  | .lt _ => 1
  | .ng p => 1 + p.size
  | .im p q => 1 + (p.size + q.size)
def depth : Fm → Nat
  | .lt _ => 1
  | .ng p => p.depth + 1
  | .im p q => max p.depth q.depth + 1
/-- all letters, as they stand -/
def lets : Fm → List Str
  | .lt n => [n]
  | .ng p => p.lets
  | .im p q => p.lets ++ q.lets
def d : Fm → PyData
  | .lt n => .tuple [.str "letter", .str n]
  | .ng p => .tuple [.str "not", p.d]
  | .im p q => .tuple [.str "if", p.d, q.d]
theorem size_pos : ∀ f : Fm, 1 ≤ f.size
  | .lt _ => Nat.le_refl _
  | .ng _ => Nat.le_add_right _ _
  | .im _ _ => Nat.le_add_right _ _
theorem depth_le : ∀ f : Fm, f.depth ≤ f.size
  | .lt _ => Nat.le_refl _
  | .ng p => by have := depth_le p; simp only [size, depth]; omega
  | .im p q => by have := depth_le p; have := depth_le q; simp only [size, depth]; omega
end Fm
abbrev FmV (K : PySem.W.Frag) (H : Hp) (v : V) (f : Fm) : Prop := Dt K H v f.d
section
variable {S : List Addr} {H H' : Hp} {K : PySem.W.Frag} {v : V} {n : Str} {p q : Fm}
theorem fm_lt (h : FmV K H v (.lt n)) : ∃ a, v = .ref a ∧ SqT K H a [.str "letter", .str n] := by
  obtain ⟨a, xs, rfl, h1, h2⟩ := Dt.tupI h
  cases h2 with
  | cons q1 r1 =>
    cases r1 with
    | cons q2 r2 =>
      cases r2; cases q1; cases q2
      exact ⟨a, rfl, h1⟩
theorem fm_ng (h : FmV K H v (.ng p)) : ∃ a x, v = .ref a ∧ SqT K H a [.str "not", x] ∧ FmV K H x p := by
  obtain ⟨a, xs, rfl, h1, h2⟩ := Dt.tupI h
  cases h2 with
  | cons q1 r1 =>
    cases r1 with
    | cons q2 r2 =>
      cases r2; cases q1
      exact ⟨a, _, rfl, h1, q2⟩
theorem fm_im (h : FmV K H v (.im p q)) : ∃ a x y, v = .ref a ∧ SqT K H a [.str "if", x, y] ∧ FmV K H x p ∧ FmV K H y q := by
  obtain ⟨a, xs, rfl, h1, h2⟩ := Dt.tupI h
  cases h2 with
  | cons q1 r1 =>
    cases r1 with
    | cons q2 r2 =>
      cases r2 with
      | cons q3 r3 =>
        cases r3; cases q1
        exact ⟨a, _, _, rfl, h1, q2, q3⟩
theorem mk_lt {a : Addr} (h : SqT K H a [.str "letter", .str n]) : FmV K H (.ref a) (.lt n) := .tup h (.cons (.str _) (.cons (.str _) .nil))
theorem mk_ng {a : Addr} {x : V} (h : SqT K H a [.str "not", x]) (h1 : FmV K H x p) : FmV K H (.ref a) (.ng p) := .tup h (.cons (.str _) (.cons h1 .nil))
theorem mk_im {a : Addr} {x y : V} (h : SqT K H a [.str "if", x, y]) (h1 : FmV K H x p) (h2 : FmV K H y q) : FmV K H (.ref a) (.im p q) := .tup h (.cons (.str _) (.cons h1 (.cons h2 .nil)))
end
/-- every formula's value: its kind and its parts -/
inductive FmC (K : PySem.W.Frag) (H : Hp) : V → Fm → Prop
  | lt {a : Addr} {n : Str} : SqT K H a [.str "letter", .str n] → FmC K H (.ref a) (.lt n)
  | ng {a : Addr} {x : V} {p : Fm} : SqT K H a [.str "not", x] → FmV K H x p → FmC K H (.ref a) (.ng p)
  | im {a : Addr} {x y : V} {p q : Fm} : SqT K H a [.str "if", x, y] → FmV K H x p → FmV K H y q → FmC K H (.ref a) (.im p q)
theorem FmV.c {K : PySem.W.Frag} {H : Hp} {v : V} : ∀ {f : Fm}, FmV K H v f → FmC K H v f
  | .lt n, h => by obtain ⟨a, rfl, h1⟩ := fm_lt h; exact .lt h1
  | .ng p, h => by obtain ⟨a, x, rfl, h1, h2⟩ := fm_ng h; exact .ng h1 h2
  | .im p q, h => by obtain ⟨a, x, y, rfl, h1, h2, h3⟩ := fm_im h; exact .im h1 h2 h3
end Cs

namespace Cs
open PySem PySem.Spec PyProof.Rows L2

/-- a def of the module, as the top has left it -/
structure Df (K : PySem.W.Frag) (mg : Str → Option Value) (x : Str) (st : Stmt) (ps : List Str) : Prop where
  ex : ∃ f fd, Fun K x x st f fd ∧ mg x = some (.ref f) ∧ Binds K fd ps []
/-- a def that keeps a promise -/
structure Cl (CX : CXT) (P : Program) (w : World) (K : PySem.W.Frag) (mg : Str → Option Value) (base : Heap) (k : Nat) (x : Str) (sp : Sp) : Prop where
  ex : ∃ f fd ps, FnOk P w K mg base CX k f fd ps sp ∧ mg x = some (.ref f) ∧ PySem.W.keepIn K (.ref f) = true ∧ Binds K fd ps []
section
variable {CX : CXT} {P : Program} {w : World} {K : PySem.W.Frag} {mg : Str → Option Value} {base : Heap} {k j : Nat} {x : Str} {sp sp' : Sp}
theorem FnOk.lift {f : Addr} {fd : FuncData} {ps : List Str} (F : FnOk P w K mg base CX0 k f fd ps sp) : FnOk P w K mg base CX k f fd ps sp :=
  ⟨F.len, fun A outer s H args us vs Q E hr he hb hv hs => codeAny_mono (F.run A outer s H args us vs Q E hr he hb hv hs) fun r s' h => by
    cases r with
    | error e => exact False.elim h
    | ok fl => cases fl <;> exact h⟩
theorem Cl.lift (c : Cl CX0 P w K mg base k x sp) : Cl CX P w K mg base k x sp := by
  obtain ⟨f, fd, ps, F, r⟩ := c.ex
  exact ⟨f, fd, ps, FnOk.lift F, r⟩
theorem Cl.up (c : Cl CX P w K mg base k x sp) (h : k ≤ j) : Cl CX P w K mg base j x sp := by
  obtain ⟨f, fd, ps, F, r⟩ := c.ex
  exact ⟨f, fd, ps, F.mono h, r⟩
theorem Cl.imp (c : Cl CX P w K mg base k x sp) (h : ∀ vs H Q E, sp' vs H Q E → sp vs H Q E) : Cl CX P w K mg base k x sp' := by
  obtain ⟨f, fd, ps, F, r⟩ := c.ex
  exact ⟨f, fd, ps, FnOk.imp F h, r⟩
/-- THE RULE for a def from which no exception leaves -/
theorem Df.ok {st : Stmt} {N ps : List Str} (D : Df K mg x st ps) (S : FnScope N ps (defScope st)) (len : ∀ vs H Q E, sp vs H Q E → vs.length = ps.length)
    (hbody : ∀ (f : Addr) (cdv : Value) (A : Around) (outer : List Env) (s : Shared) (H : Hp) (vs : List V) (Q : VK) (E : XK), Room k (A.deeper (envOfC x (defScope st) s.heap.objs.size f cdv)) → sp vs H Q E →
      ∃ t, PSs (cxOf CX0 P w K mg base N x (defScope st) f cdv A outer s H E).nox (defBody st) t ∧ t { nx := fun _ H' => Q .non H', rt := Q } (start N vs) H) : Cl CX0 P w K mg base (k + 1) x sp := by
  obtain ⟨f, fd, F, hm, hb⟩ := D.ex
  exact ⟨f, fd, ps, F.ok S len (hbody f), hm, F.kp, hb⟩
/-- nothing is asked of it -/
theorem Df.none {st : Stmt} {ps : List Str} (D : Df K mg x st ps) (no : ∀ vs H Q E, ¬ sp vs H Q E) : Cl CX P w K mg base k x sp := by
  obtain ⟨f, fd, F, hm, hb⟩ := D.ex
  exact ⟨f, fd, ps, ⟨fun vs H Q E h => absurd h (no vs H Q E), fun A outer s H args us vs Q E _ _ _ _ h => absurd h (no vs H Q E)⟩, hm, F.kp, hb⟩
theorem df_mk {st : Stmt} {f : Addr} {h : Heap} {oc : Value} {od an : Option Addr} {osl : Array (Option Value)} {kV doc pm cdv ct : Value} {ps : List Str} (X : K.In h) (G : h.Ns mainGlobals mg)
    (hb : ∀ (kV doc pm : Value) (an : Option Addr) (cdv ct : Value) (us : List Value), us.length = ps.length → bindArgs (PySem.W.fnOf x x (defArgs st) (defBody st) (defScope st) .none kV doc pm an cdv ct) ⟨us, []⟩ = pure (ps.zip us))
    (a : PySem.W.nsIn K mainGlobals x = some (some (.ref f))) (l : K.lookup f = some ⟨oc, od, .func (PySem.W.fnOf x x (defArgs st) (defBody st) (defScope st) .none kV doc pm an cdv ct), osl⟩)
    (c : PySem.W.codeIn K cdv x = true) (k : PySem.W.keepIn K (.ref f) = true) : Df K mg x st ps :=
  ⟨f, _, fun_mk l c k, PySem.W.mg_of X G a, Fun.binds (fun_mk l c k) hb⟩
end
section
variable {X : Cx} {CX : CXT} {k j : Nat} {E : XK} {x : Str} {sp : Sp} {p pos : Pos} {e : Expr} {es : List Expr} {t : TA}
theorem pc (c : Cl CX X.prog X.w X.K X.mg X.base k x sp) (hr : Room j X.A) (hk : k ≤ j) (hg : Gl X x) (hx : Passes CX X E) (ha : PA X (e :: es) t)
    (hdb : (x == ("__debug__" : Str)) = false := by decide) (he : starEach (e :: es) X.env = (false, eval e X.env) :: starEach es X.env := by rfl) (hpl : (backTo pos (starEach es X.env)).any (·.1) = false := by rfl) :
    PE X (.Call (.Name x p) (e :: es) [] pos) (tCall sp [] E t) := by
  obtain ⟨f, fd, ps, F, hm, hkp, hb⟩ := c.ex
  exact pe_call F (hr.mono hk) hg hm hkp hb .nil hx ha hdb he hpl
theorem pc0 (c : Cl CX X.prog X.w X.K X.mg X.base k x sp) (hr : Room j X.A) (hk : k ≤ j) (hg : Gl X x) (hx : Passes CX X E) (hdb : (x == ("__debug__" : Str)) = false := by decide) :
    PE X (.Call (.Name x p) [] [] pos) (tCall sp [] E tNil) := by
  obtain ⟨f, fd, ps, F, hm, hkp, hb⟩ := c.ex
  exact pe_call0 F (hr.mono hk) hg hm hkp hb .nil hx hdb
end

/-! ### a class and its methods -/
/-- a method of the class at C, as the top has left it -/
structure Dm (K : PySem.W.Frag) (C : Addr) (m qual : Str) (st : Stmt) (ps : List Str) : Prop where
  ex : ∃ f fd, Fun K m qual st f fd ∧ PySem.W.findIn K (.ref C) m = some (some (.ref f)) ∧ PySem.W.isFn K (.ref f) = true ∧ Binds K fd ps []
structure Ml (CX : CXT) (P : Program) (w : World) (K : PySem.W.Frag) (mg : Str → Option Value) (base : Heap) (k : Nat) (C : Addr) (m : Str) (sp : Sp) : Prop where
  ex : ∃ f fd ps, FnOk P w K mg base CX k f fd ps sp ∧ Meth K C m f ∧ Binds K fd ps []
structure Mm (CX : CXT) (P : Program) (w : World) (K : PySem.W.Frag) (mg : Str → Option Value) (base : Heap) (k : Nat) (x : Str) (C : Addr) (sp : Sp) : Prop where
  ex : ∃ f fd ps, FnOk P w K mg base CX k f fd ps sp ∧ Mk K C f ∧ mg x = some (.ref C) ∧ Binds K fd ps []
section
variable {CX : CXT} {P : Program} {w : World} {K : PySem.W.Frag} {mg : Str → Option Value} {base : Heap} {k j : Nat} {C : Addr} {x m qual : Str} {sp sp' : Sp} {st : Stmt} {N ps : List Str}
theorem Dm.ok (D : Dm K C m qual st ps) (S : FnScope N ps (defScope st)) (len : ∀ vs H Q E, sp vs H Q E → vs.length = ps.length)
    (hbody : ∀ (f : Addr) (cdv : Value) (A : Around) (outer : List Env) (s : Shared) (H : Hp) (vs : List V) (Q : VK) (E : XK), Room k (A.deeper (envOfC qual (defScope st) s.heap.objs.size f cdv)) → sp vs H Q E →
      ∃ t, PSs (cxOf CX0 P w K mg base N qual (defScope st) f cdv A outer s H E).nox (defBody st) t ∧ t { nx := fun _ H' => Q .non H', rt := Q } (start N vs) H) : Ml CX0 P w K mg base (k + 1) C m sp := by
  obtain ⟨f, fd, F, hm, hf, hb⟩ := D.ex
  exact ⟨f, fd, ps, F.ok S len (hbody f), ⟨hm, hf, F.kp⟩, hb⟩
theorem Dm.okM (D : Dm K C "__init__" qual st ps) (hmk : PySem.W.makesIn K C = true) (hkc : PySem.W.keepIn K (.ref C) = true) (hx : mg x = some (.ref C)) (S : FnScope N ps (defScope st)) (len : ∀ vs H Q E, sp vs H Q E → vs.length = ps.length)
    (hbody : ∀ (f : Addr) (cdv : Value) (A : Around) (outer : List Env) (s : Shared) (H : Hp) (vs : List V) (Q : VK) (E : XK), Room k (A.deeper (envOfC qual (defScope st) s.heap.objs.size f cdv)) → sp vs H Q E →
      ∃ t, PSs (cxOf CX0 P w K mg base N qual (defScope st) f cdv A outer s H E).nox (defBody st) t ∧ t { nx := fun _ H' => Q .non H', rt := Q } (start N vs) H) : Mm CX0 P w K mg base (k + 1) x C sp := by
  obtain ⟨f, fd, F, hm, hf, hb⟩ := D.ex
  exact ⟨f, fd, ps, F.ok S len (hbody f), ⟨hmk, hm, hf, hkc⟩, hx, hb⟩
theorem Ml.lift (c : Ml CX0 P w K mg base k C m sp) : Ml CX P w K mg base k C m sp := by
  obtain ⟨f, fd, ps, F, r⟩ := c.ex
  exact ⟨f, fd, ps, FnOk.lift F, r⟩
theorem Mm.lift (c : Mm CX0 P w K mg base k x C sp) : Mm CX P w K mg base k x C sp := by
  obtain ⟨f, fd, ps, F, r⟩ := c.ex
  exact ⟨f, fd, ps, FnOk.lift F, r⟩
theorem dm_mk {f : Addr} {oc : Value} {od an : Option Addr} {osl : Array (Option Value)} {kV doc pm cdv ct : Value}
    (hb : ∀ (kV doc pm : Value) (an : Option Addr) (cdv ct : Value) (us : List Value), us.length = ps.length → bindArgs (PySem.W.fnOf m qual (defArgs st) (defBody st) (defScope st) .none kV doc pm an cdv ct) ⟨us, []⟩ = pure (ps.zip us))
    (a : PySem.W.findIn K (.ref C) m = some (some (.ref f))) (i : PySem.W.isFn K (.ref f) = true) (l : K.lookup f = some ⟨oc, od, .func (PySem.W.fnOf m qual (defArgs st) (defBody st) (defScope st) .none kV doc pm an cdv ct), osl⟩)
    (c : PySem.W.codeIn K cdv qual = true) (k : PySem.W.keepIn K (.ref f) = true) : Dm K C m qual st ps :=
  ⟨f, _, fun_mk l c k, a, i, Fun.binds (fun_mk l c k) hb⟩
end
section
variable {X : Cx} {CX : CXT} {k j : Nat} {C : Addr} {E : XK} {x m : Str} {sp : Sp} {p pos apos : Pos} {e o : Expr} {es : List Expr} {t : TA} {ta : TE}
theorem ps0 : Passes CX0 X E0 := fun _ _ _ _ _ _ _ h => h.elim
theorem pm {pl : Sem Bool} (cl : Cls X.K C) (c : Ml CX X.prog X.w X.K X.mg X.base k C m sp) (hr : Room j X.A) (hk : k ≤ j) (hx : Passes CX X E) (he : PE X o ta) (ha : PA X (e :: es) t)
    (hst : starEach (e :: es) X.env = (false, eval e X.env) :: starEach es X.env := by rfl) (hpl : (backTo pos (starEach es X.env)).any (·.1) = false := by rfl)
    (ht : eval (.Call (.Attribute o m apos) (e :: es) [] pos) X.env = (do
      let ov ← eval o X.env
      standAt apos.atName
      let (f, first) ← holding [ov] (getMethod ov m pl)
      callWith pos f first (backTo pos (starEach (e :: es) X.env)) (backToKw pos (keywordEach [] X.env))) := by rfl) :
    PE X (.Call (.Attribute o m apos) (e :: es) [] pos) (tMeth C m sp [] E ta t) := by
  obtain ⟨f, fd, ps, F, hm, hb⟩ := c.ex
  exact pe_meth (pl := pl) he cl hm F (hr.mono hk) hb .nil hx ha hst hpl ht
theorem pm0 {pl : Sem Bool} (cl : Cls X.K C) (c : Ml CX X.prog X.w X.K X.mg X.base k C m sp) (hr : Room j X.A) (hk : k ≤ j) (hx : Passes CX X E) (he : PE X o ta)
    (ht : eval (.Call (.Attribute o m apos) [] [] pos) X.env = (do
      let ov ← eval o X.env
      standAt apos.atName
      let (f, first) ← holding [ov] (getMethod ov m pl)
      callWith pos f first (backTo pos (starEach [] X.env)) (backToKw pos (keywordEach [] X.env))) := by rfl) :
    PE X (.Call (.Attribute o m apos) [] [] pos) (tMeth C m sp [] E ta tNil) := by
  obtain ⟨f, fd, ps, F, hm, hb⟩ := c.ex
  exact pe_meth0 (pl := pl) he cl hm F (hr.mono hk) hb .nil hx ht
theorem pk (c : Mm CX X.prog X.w X.K X.mg X.base k x C sp) (hr : Room j X.A) (hk : k + 1 ≤ j) (hg : Gl X x) (hx : Passes CX X E) (ha : PA X (e :: es) t)
    (hdb : (x == ("__debug__" : Str)) = false := by decide) (he : starEach (e :: es) X.env = (false, eval e X.env) :: starEach es X.env := by rfl) (hpl : (backTo pos (starEach es X.env)).any (·.1) = false := by rfl) :
    PE X (.Call (.Name x p) (e :: es) [] pos) (tMake C sp [] E t) := by
  obtain ⟨f, fd, ps, F, M, hm, hb⟩ := c.ex
  exact pe_make M F (hr.mono hk) hg hm hb .nil hx ha hdb he hpl
theorem pk0 (c : Mm CX X.prog X.w X.K X.mg X.base k x C sp) (hr : Room j X.A) (hk : k + 1 ≤ j) (hg : Gl X x) (hx : Passes CX X E)
    (hdb : (x == ("__debug__" : Str)) = false := by decide) : PE X (.Call (.Name x p) [] [] pos) (tMake C sp [] E tNil) := by
  obtain ⟨f, fd, ps, F, M, hm, hb⟩ := c.ex
  exact pe_make0 M F (hr.mono hk) hg hm hb .nil hx hdb
end

theorem szlt {n m : Nat} (h : n ≤ m) (hm : m ≤ 100000) : n < sizeLine := Nat.lt_of_le_of_lt (Nat.le_trans h hm) (by decide)
theorem szle {n m : Nat} (h : n ≤ m) (hm : m ≤ 100000) : n ≤ sizeLine := Nat.le_of_lt (szlt h hm)
theorem at0 {α : Type} {x : α} {xs : List α} : atI (x :: xs) 0 = some x := atI_nat (j := 0) rfl
theorem at1 {α : Type} {x y : α} {xs : List α} : atI (x :: y :: xs) 1 = some y := atI_nat (j := 1) rfl
theorem at2 {α : Type} {x y z : α} {xs : List α} : atI (x :: y :: z :: xs) 2 = some z := atI_nat (j := 2) rfl
theorem hA_gr {H H1 : Hp} {p : Addr} {o : HO} (h : upd H p o = H1) (hp : H p = none) : Gr H H1 ∧ H1 p = some o := by subst h; exact ⟨Gx.new hp, upd_same⟩
theorem pgc {X : Cx} {x : Str} {pos : Pos} {v : V} (hg : Gl X x) (h : ∃ u, X.mg x = some u ∧ RelV v u) (hd : (x == ("__debug__" : Str)) = false := by decide) : PE X (.Name x pos) (tC v) := by
  obtain ⟨u, h1, h2⟩ := h
  exact pe_glob hg h1 h2 hd

/-! ### the box: a list [digits, place] -/
structure Bx (H : Hp) (b : Addr) : Prop where
  ex : ∃ (dg : Addr) (at_ : Int) (ds : List Int), H b = some (.lst [.ref dg, .int at_]) ∧ 0 ≤ at_ ∧ H dg = some (.lst (ds.map V.int)) ∧ ds.length ≤ 4000 ∧ (∀ d ∈ ds, 0 ≤ d ∧ d < 1000) ∧ dg ≠ b
theorem Bx.gx {S : List Addr} {H H' : Hp} {b : Addr} (x : Gx S H H') (h : ∀ a ∈ S, a ≠ b ∧ ∀ xs, H a ≠ some (.lst xs)) (B : Bx H b) : Bx H' b := by
  obtain ⟨dg, at_, ds, h1, h2, h3, h4, h5, h6⟩ := B.ex
  exact ⟨dg, at_, ds, x.lst h1 fun m => (h b m).1 rfl, h2, x.lst h3 (fun m => (h dg m).2 _ h3), h4, h5, h6⟩
theorem Bx.gr {H H' : Hp} {b : Addr} (x : Gr H H') (B : Bx H b) : Bx H' b := B.gx x fun a h => nomatch h
end Cs

namespace Cs
open PySem PySem.Spec PyProof.Rows L2
namespace Fm
def isLt : Fm → Bool
  | .lt _ => true | _ => false
def isIm : Fm → Bool
  | .im _ _ => true | _ => false
def tag : Fm → Str
  | .lt _ => "letter" | .ng _ => "not" | .im _ _ => "if"
def kids : Fm → List Fm
  | .lt _ => [] | .ng p => [p] | .im p q => [p, q]
def put (t : Str → Option Fm) : Fm → Fm
  | .lt n => (t n).getD (.lt n)
  | .ng p => .ng (p.put t)
  | .im p q => .im (p.put t) (q.put t)
theorem d_node : ∀ {f : Fm}, f.isLt = false → f.d = .tuple (.str f.tag :: f.kids.map d)
  | .lt _, h => nomatch h
  | .ng _, _ => rfl
  | .im _ _, _ => rfl
theorem put_node (t : Str → Option Fm) : ∀ {f : Fm}, f.isLt = false → (f.put t).d = .tuple (.str f.tag :: f.kids.map fun g => (g.put t).d)
  | .lt _, h => nomatch h
  | .ng _, _ => rfl
  | .im _ _, _ => rfl
theorem tag_ne : ∀ {f : Fm}, f.isLt = false → decide (V.str f.tag = V.str "letter") = false
  | .lt _, h => nomatch h
  | .ng _, _ => (by decide +kernel : decide (V.str "not" = V.str "letter") = false)
  | .im _ _, _ => (by decide +kernel : decide (V.str "if" = V.str "letter") = false)
theorem kids_ne : ∀ {f : Fm}, f.isLt = false → f.kids ≠ []
  | .lt _, h => nomatch h
  | .ng _, _ => List.cons_ne_nil _ _
  | .im _ _, _ => List.cons_ne_nil _ _
theorem kids_len : ∀ f : Fm, f.kids.length ≤ 2
  | .lt _ => Nat.zero_le _
  | .ng _ => Nat.le_succ _
  | .im _ _ => Nat.le_refl _
theorem kids_depth : ∀ {f g : Fm}, g ∈ f.kids → g.depth < f.depth
  | .lt _, _, h => nomatch h
  | .ng p, g, h => by
    rw [List.mem_singleton.mp h]; exact Nat.lt_succ_self _
  | .im p q, g, h => by
    have e : (Fm.im p q).depth = max p.depth q.depth + 1 := rfl
    rcases List.mem_cons.mp h with h | h
    · rw [h, e]; exact Nat.lt_succ_of_le (Nat.le_max_left _ _)
    · rw [List.mem_singleton.mp h, e]; exact Nat.lt_succ_of_le (Nat.le_max_right _ _)
theorem depth_pos : ∀ f : Fm, 1 ≤ f.depth
  | .lt _ => Nat.le_refl _
  | .ng _ => Nat.le_add_left _ _
  | .im _ _ => Nat.le_add_left _ _
/-- letters for letters: the same size, the new letters -/
theorem put_lets {t : Str → Option Fm} {A : List Str} {B : Str → Prop} (h : ∀ n ∈ A, ∃ m, t n = some (.lt m) ∧ B m) : ∀ f : Fm, (∀ x ∈ f.lets, x ∈ A) → (f.put t).size = f.size ∧ ∀ x ∈ (f.put t).lets, B x
  | .lt n, hf => by
    obtain ⟨m, e, b⟩ := h n (hf n (List.mem_singleton_self _))
    show ((t n).getD (.lt n)).size = 1 ∧ ∀ x ∈ ((t n).getD (.lt n)).lets, B x
    rw [e]
    exact ⟨rfl, fun x hx => by rw [List.mem_singleton.mp hx]; exact b⟩
  | .ng p, hf => by
    obtain ⟨a, b⟩ := put_lets h p hf
    exact ⟨by show 1 + (p.put t).size = 1 + p.size; rw [a], b⟩
  | .im p q, hf => by
    obtain ⟨a, b⟩ := put_lets h p fun x hx => hf x (List.mem_append_left _ hx)
    obtain ⟨a2, b2⟩ := put_lets h q fun x hx => hf x (List.mem_append_right _ hx)
    exact ⟨by show 1 + ((p.put t).size + (q.put t).size) = 1 + (p.size + q.size); rw [a, a2], fun x hx => (List.mem_append.mp hx).elim (b x) (b2 x)⟩
/-- the text -/
def tx : Fm → List Nat
  | .lt n => n.cps.toList
  | .ng p => 126 :: (if p.isIm then [40] ++ p.tx ++ [41] else p.tx)
  | .im p q => (if p.isIm then [40] ++ p.tx ++ [41] else p.tx) ++ [32, 45, 62, 32] ++ q.tx
def gr (p : Fm) : List Nat := if p.isIm then [40] ++ p.tx ++ [41] else p.tx
theorem tx_ng (p : Fm) : (Fm.ng p).tx = 126 :: p.gr := rfl
theorem tx_im (p q : Fm) : (Fm.im p q).tx = p.gr ++ [32, 45, 62, 32] ++ q.tx := rfl
/-- letters of at most two signs -/
def Sh (f : Fm) : Prop := ∀ x ∈ f.lets, x.length ≤ 2
theorem Sh.ng {p : Fm} (h : Sh (.ng p)) : Sh p := h
theorem Sh.l {p q : Fm} (h : Sh (.im p q)) : Sh p := fun x hx => h x (List.mem_append_left _ hx)
theorem Sh.r {p q : Fm} (h : Sh (.im p q)) : Sh q := fun x hx => h x (List.mem_append_right _ hx)
theorem tx_len : ∀ (f : Fm), Sh f → f.tx.length ≤ 8 * f.size
  | .lt n, h => by
    have := h n (List.mem_singleton_self _)
    show n.cps.toList.length ≤ 8 * 1
    rw [Array.length_toList]; exact Nat.le_trans this (by omega)
  | .ng p, h => by
    have ih := tx_len p h.ng
    simp only [tx, size]
    split <;> simp only [List.length_cons, List.length_append, List.length_nil] <;> omega
  | .im p q, h => by
    have i1 := tx_len p h.l
    have i2 := tx_len q h.r
    simp only [tx, size]
    split <;> simp only [List.length_cons, List.length_append, List.length_nil] <;> omega
theorem gr_len (f : Fm) (h : Sh f) : f.gr.length ≤ 8 * f.size + 2 := by
  have := tx_len f h
  unfold gr
  split
  · simp only [List.length_cons, List.length_append, List.length_nil]; omega
  · omega
end Fm
section
variable {K : PySem.W.Frag} {H H' : Hp} {v : V} {f : Fm}
theorem fm_node (h : FmV K H v f) (hl : f.isLt = false) : ∃ a xs, v = .ref a ∧ SqT K H a (.str f.tag :: xs) ∧ DtAll K H xs (f.kids.map Fm.d) := by
  unfold FmV at h
  rw [Fm.d_node hl] at h
  obtain ⟨a, xs, rfl, h1, h2⟩ := h.tupI
  cases h2 with
  | cons q1 r1 => cases q1; exact ⟨a, _, rfl, h1, r1⟩
theorem fm_tup (h : FmV K H v f) : ∃ a xs, v = .ref a ∧ SqT K H a (.str f.tag :: xs) := by
  rcases h.c with h1 | ⟨h1, _⟩ | ⟨h1, _, _⟩ <;> exact ⟨_, _, rfl, h1⟩
end

/-! ### tables: dicts from letters to formulas -/
structure Tb (K : PySem.W.Frag) (H : Hp) (d : Addr) (N : Nat) (t : Str → Option Fm) : Prop where
  ex : ∃ kvs : List (Key × V), H d = some (.dK kvs) ∧ kvs.length ≤ N ∧ ∀ n, (t n = none ∧ valV kvs (.inr n) = none) ∨ ∃ f v, t n = some f ∧ valV kvs (.inr n) = some v ∧ FmV K H v f
theorem Tb.gx {K : PySem.W.Frag} {S : List Addr} {H H' : Hp} {d : Addr} {N : Nat} {t : Str → Option Fm} (x : Gx S H H') (n : d ∉ S) (T : Tb K H d N t) : Tb K H' d N t := by
  obtain ⟨kvs, h1, h2, h3⟩ := T.ex
  exact ⟨kvs, x.keep _ _ n h1 (fun ps e => nomatch e), h2, fun m => (h3 m).imp id fun ⟨f, v, a, b, c⟩ => ⟨f, v, a, b, x.dt c⟩⟩
theorem putK_len {κ : Type} [DecidableEq κ] (kvs : List (κ × V)) (k : κ) (v : V) : (putK kvs k v).length ≤ kvs.length + 1 := by
  unfold putK
  split
  · rw [List.length_map]; omega
  · rw [List.length_append]; exact Nat.le_refl _
theorem Tb.dput {K : PySem.W.Frag} {H : Hp} {d : Addr} {N : Nat} {t : Str → Option Fm} {v : V} {f : Fm} (n : Str) (T : Tb K H d N t) (hf : FmV K H v f) :
    ∃ kvs, H d = some (.dK kvs) ∧ kvs.length ≤ N ∧ Gx [d] H (upd H d (.dK (putK kvs (.inr n) v))) ∧ Tb K (upd H d (.dK (putK kvs (.inr n) v))) d (N + 1) (fun m => if m = n then some f else t m) := by
  obtain ⟨kvs, h1, h2, h3⟩ := T.ex
  have g : Gx [d] H (upd H d (.dK (putK kvs (.inr n) v))) := Gx.set h1 rfl
  refine ⟨kvs, h1, h2, g, _, upd_same, Nat.le_trans (putK_len _ _ _) (Nat.succ_le_succ h2), fun m => ?_⟩
  rw [valV_put]
  by_cases e : m = n
  · subst e
    exact .inr ⟨f, v, if_pos rfl, if_pos rfl, g.dt hf⟩
  · have e2 : ¬ (Sum.inr m : Key) = Sum.inr n := fun z => e (Sum.inr.inj z)
    rw [if_neg e2]
    rcases h3 m with ⟨a, b⟩ | ⟨f', v', a, b, c⟩
    · exact .inl ⟨by show (if m = n then some f else t m) = none; rw [if_neg e]; exact a, b⟩
    · exact .inr ⟨f', v', by show (if m = n then some f else t m) = some f'; rw [if_neg e]; exact a, b, g.dt c⟩
theorem Tb.new {K : PySem.W.Frag} {H : Hp} {d : Addr} (h : H d = some (.dK [])) : Tb K H d 0 (fun _ => none) := ⟨[], h, Nat.le_refl _, fun n => .inl ⟨rfl, rfl⟩⟩
theorem tyx_tup {K : PySem.W.Frag} {H : Hp} {a : Addr} {xs : List V} (h : SqT K H a xs) : TyX K H (.ref a) (.type "tuple") := by
  rcases h with (h | ⟨o, h⟩) | ⟨o, its, n, h, c, _⟩
  · exact .base (.tup h)
  · exact .fTuple h
  · exact .kTuple h c

theorem depthAll_mem : ∀ {ds : List PyData} {d : PyData}, d ∈ ds → d.depth ≤ PyData.depthAll ds
  | [], _, h => nomatch h
  | e :: ds, d, h => by
    simp only [PyData.depthAll]
    rcases List.mem_cons.mp h with rfl | h
    · exact Nat.le_max_left _ _
    · exact Nat.le_trans (depthAll_mem h) (Nat.le_max_right _ _)
/-- tuples of few items -/
def fine : PyData → Bool
  | .tuple ds => decide (ds.length ≤ 100000) && fines ds
  | _ => true
where fines : List PyData → Bool
  | [] => true
  | d :: ds => fine d && fines ds
theorem fines_mem : ∀ {ds : List PyData} {d : PyData}, fine.fines ds = true → d ∈ ds → fine d = true
  | [], _, _, h => nomatch h
  | e :: ds, d, h, m => by
    have h' : (fine e && fine.fines ds) = true := by rw [fine.fines] at h; exact h
    rw [Bool.and_eq_true] at h'
    rcases List.mem_cons.mp m with rfl | m
    · exact h'.1
    · exact fines_mem h'.2 m
theorem fine_tup {ds : List PyData} (h : fine (.tuple ds) = true) : ds.length ≤ 100000 ∧ ∀ d ∈ ds, fine d = true := by
  rw [fine, Bool.and_eq_true, decide_eq_true_eq] at h
  exact ⟨h.1, fun d m => fines_mem h.2 m⟩
theorem fine_mk {ds : List PyData} (h : ds.length ≤ 100000) (h2 : ∀ d ∈ ds, fine d = true) : fine (.tuple ds) = true := by
  rw [fine, Bool.and_eq_true, decide_eq_true_eq]
  refine ⟨h, ?_⟩
  clear h
  induction ds with
  | nil => rw [fine.fines]
  | cons d ds ih => rw [fine.fines, h2 d List.mem_cons_self, ih fun e m => h2 e (List.mem_cons_of_mem _ m)]; rfl
theorem Fm.d_fine : ∀ f : Fm, fine f.d = true
  | .lt n => by simp [Fm.d, fine, fine.fines]
  | .ng p => by simp [Fm.d, fine, fine.fines, d_fine p]
  | .im p q => by simp [Fm.d, fine, fine.fines, d_fine p, d_fine q]
theorem Fm.d_depth : ∀ f : Fm, f.d.depth = f.depth
  | .lt n => by simp [Fm.d, Fm.depth, PyData.depth, PyData.depthAll]
  | .ng p => by simp [Fm.d, Fm.depth, PyData.depth, PyData.depthAll, d_depth p]
  | .im p q => by simp [Fm.d, Fm.depth, PyData.depth, PyData.depthAll, d_depth p, d_depth q]
end Cs

namespace Cs
open PySem PySem.Spec PyProof.Rows L2
/-! ### reading a text sign by sign: plain law -/
def small (c : Nat) : Bool := decide (97 ≤ c) && decide (c ≤ 122)
def digit (c : Nat) : Bool := decide (48 ≤ c) && decide (c ≤ 57)
abbrev Grp := List Fm × Nat
def negs : Nat → Fm → Fm
  | 0, f => f
  | n + 1, f => negs n (.ng f)
def grpF : List Fm → Fm
  | [] => .lt ⟨#[]⟩
  | [f] => f
  | f :: r => .im f (grpF r)
structure RS where
  p : Nat
  gs : List Grp      -- the top first
  wants : Bool
def addG (f : Fm) : List Grp → List Grp
  | [] => []
  | (ps, n) :: r => (ps ++ [negs n f], 0) :: r
def nameAt (t : List Nat) (p c : Nat) : List Nat := match t[p + 1]? with
  | some d => if digit d then [c, d] else [c]
  | none => [c]
def startS (t : List Nat) (s : RS) (c : Nat) : Option RS :=
  if c = 126 then match s.gs with
    | (ps, n) :: r => some ⟨s.p + 1, (ps, n + 1) :: r, s.wants⟩
    | [] => none
  else if c = 40 then some ⟨s.p + 1, ([], 0) :: s.gs, s.wants⟩
  else if small c then some ⟨s.p + (nameAt t s.p c).length, addG (.lt ⟨(nameAt t s.p c).toArray⟩) s.gs, false⟩
  else none
def goS (t : List Nat) (s : RS) (c : Nat) : Option RS :=
  if c = 45 then (if t[s.p + 1]? = some 62 then some ⟨s.p + 2, s.gs, true⟩ else none)
  else if c = 41 then match s.gs with
    | g :: h :: r => some ⟨s.p + 1, addG (grpF g.1) (h :: r), s.wants⟩
    | _ => none
  else none
def stepS (t : List Nat) (s : RS) : Option RS := match t[s.p]? with
  | none => none
  | some c => if c = 32 then some ⟨s.p + 1, s.gs, s.wants⟩ else if s.wants then startS t s c else goS t s c
inductive Run (t : List Nat) : RS → RS → Prop
  | refl (s : RS) : Run t s s
  | more {s s1 s2 : RS} : stepS t s = some s1 → Run t s1 s2 → Run t s s2
theorem Run.trans {t : List Nat} {a b c : RS} (x : Run t a b) (y : Run t b c) : Run t a c := by
  induction x with
  | refl => exact y
  | more h _ ih => exact .more h (ih y)
/-- a name of a letter -/
def Nm (n : Str) : Prop := ∃ c, small c = true ∧ (n.cps.toList = [c] ∨ ∃ d, digit d = true ∧ n.cps.toList = [c, d])
def Named (f : Fm) : Prop := ∀ x ∈ f.lets, Nm x
theorem Named.ng {p : Fm} (h : Named (.ng p)) : Named p := h
theorem Named.l {p q : Fm} (h : Named (.im p q)) : Named p := fun x hx => h x (List.mem_append_left _ hx)
theorem Named.r {p q : Fm} (h : Named (.im p q)) : Named q := fun x hx => h x (List.mem_append_right _ hx)
/-- no digit comes next -/
def Nxt (r : List Nat) : Prop := ∀ c, r.head? = some c → digit c = false
def spine : Fm → List Fm
  | .im p q => p :: spine q
  | f => [f]
theorem spine_ne : ∀ f : Fm, spine f ≠ []
  | .im _ _ => List.cons_ne_nil _ _
  | .lt _ => List.cons_ne_nil _ _
  | .ng _ => List.cons_ne_nil _ _
theorem grpF_spine : ∀ f : Fm, grpF (spine f) = f
  | .lt _ => rfl
  | .ng _ => rfl
  | .im p q => by
    have h := grpF_spine q
    show grpF (p :: spine q) = .im p q
    cases e : spine q with
    | nil => exact absurd e (spine_ne q)
    | cons x r => rw [e] at h; show Fm.im p (grpF (x :: r)) = _; rw [h]
theorem at_app {pre r : List Nat} {c : Nat} : (pre ++ c :: r)[pre.length]? = some c := by
  rw [List.getElem?_append_right (Nat.le_refl _), Nat.sub_self]; rfl
theorem at_app1 {pre r : List Nat} {c d : Nat} : (pre ++ c :: d :: r)[pre.length + 1]? = some d := by
  rw [List.getElem?_append_right (Nat.le_succ _), show pre.length + 1 - pre.length = 1 by omega]; rfl
theorem at_app1' {pre r : List Nat} {c : Nat} : (pre ++ c :: r)[pre.length + 1]? = r.head? := by
  rw [List.getElem?_append_right (Nat.le_succ _), show pre.length + 1 - pre.length = 1 by omega]
  cases r <;> rfl
theorem small_ne {c : Nat} (h : small c = true) : c ≠ 32 ∧ c ≠ 126 ∧ c ≠ 40 ∧ c ≠ 45 ∧ c ≠ 41 := by
  unfold small at h
  rw [Bool.and_eq_true, decide_eq_true_eq, decide_eq_true_eq] at h
  omega
theorem run_letter {pre rest : List Nat} {n : Str} (hn : Nm n) (hr : Nxt rest) (ps : List Fm) (k : Nat) (gs : List Grp) :
    Run (pre ++ (n.cps.toList ++ rest)) ⟨pre.length, (ps, k) :: gs, true⟩ ⟨pre.length + n.cps.toList.length, (ps ++ [negs k (.lt n)], 0) :: gs, false⟩ := by
  obtain ⟨c, hc, h⟩ := hn
  obtain ⟨c1, c2, c3, c4, c5⟩ := small_ne hc
  have nn : ∀ l : List Nat, n.cps.toList = l → (⟨l.toArray⟩ : Str) = n := fun l e => by rw [← e]
  rcases h with e | ⟨d, hd, e⟩
  · rw [e]
    refine .more ?_ (.refl _)
    unfold stepS
    rw [show (pre ++ ([c] ++ rest)) = pre ++ c :: rest from rfl, at_app]
    simp only [if_neg c1, if_true]
    unfold startS
    rw [if_neg c2, if_neg c3, if_pos hc]
    have en : nameAt (pre ++ c :: rest) pre.length c = [c] := by
      unfold nameAt
      rw [at_app1']
      cases q : rest.head? with
      | none => rfl
      | some d => show (if digit d = true then [c, d] else [c]) = [c]; rw [hr d q]; rfl
    simp only [en, nn _ e]
    rfl
  · rw [e]
    refine .more ?_ (.refl _)
    unfold stepS
    rw [show (pre ++ ([c, d] ++ rest)) = pre ++ c :: d :: rest from rfl, at_app]
    simp only [if_neg c1, if_true]
    unfold startS
    rw [if_neg c2, if_neg c3, if_pos hc]
    have en : nameAt (pre ++ c :: d :: rest) pre.length c = [c, d] := by
      unfold nameAt
      rw [at_app1]
      show (if digit d = true then [c, d] else [c]) = [c, d]
      rw [hd]; rfl
    simp only [en, nn _ e]
    rfl
theorem nxt_sp {r : List Nat} {c : Nat} (h : digit c = false) : Nxt (c :: r) := fun d e => by
  have : c = d := Option.some.inj e
  rw [← this]; exact h
theorem Nxt.nil : Nxt [] := fun c h => nomatch h
theorem step_ng {pre r : List Nat} {ps : List Fm} {k : Nat} {gs : List Grp} : stepS (pre ++ 126 :: r) ⟨pre.length, (ps, k) :: gs, true⟩ = some ⟨pre.length + 1, (ps, k + 1) :: gs, true⟩ := by
  unfold stepS
  rw [at_app]; rfl
theorem step_lp {pre r : List Nat} {gs : List Grp} : stepS (pre ++ 40 :: r) ⟨pre.length, gs, true⟩ = some ⟨pre.length + 1, ([], 0) :: gs, true⟩ := by
  unfold stepS
  rw [at_app]; rfl
theorem step_rp {pre r : List Nat} {g h : Grp} {gs : List Grp} : stepS (pre ++ 41 :: r) ⟨pre.length, g :: h :: gs, false⟩ = some ⟨pre.length + 1, addG (grpF g.1) (h :: gs), false⟩ := by
  unfold stepS
  rw [at_app]; rfl
theorem step_sp {pre r : List Nat} {gs : List Grp} {w : Bool} : stepS (pre ++ 32 :: r) ⟨pre.length, gs, w⟩ = some ⟨pre.length + 1, gs, w⟩ := by
  unfold stepS
  rw [at_app]; rfl
theorem step_ar {pre r : List Nat} {gs : List Grp} : stepS (pre ++ 45 :: 62 :: r) ⟨pre.length, gs, false⟩ = some ⟨pre.length + 2, gs, true⟩ := by
  unfold stepS
  rw [at_app]
  show goS _ _ 45 = _
  unfold goS
  rw [at_app1]; rfl
theorem len1 (pre : List Nat) (c : Nat) : (pre ++ [c]).length = pre.length + 1 := by rw [List.length_append]; rfl
theorem mv1 (pre : List Nat) (c : Nat) (r : List Nat) : pre ++ c :: r = (pre ++ [c]) ++ r := by rw [List.append_assoc]; rfl
mutual
theorem run_gr : ∀ (f : Fm), Named f → ∀ (pre rest : List Nat), Nxt rest → ∀ (ps : List Fm) (k : Nat) (gs : List Grp),
    Run (pre ++ (f.gr ++ rest)) ⟨pre.length, (ps, k) :: gs, true⟩ ⟨pre.length + f.gr.length, (ps ++ [negs k f], 0) :: gs, false⟩
  | .lt n, hn, pre, rest, hr, ps, k, gs => run_letter (hn n (List.mem_singleton_self _)) hr ps k gs
  | .ng p, hn, pre, rest, hr, ps, k, gs => by
    have ih := run_gr p hn.ng (pre ++ [126]) rest hr ps (k + 1) gs
    rw [len1] at ih
    have e : (Fm.ng p).gr = 126 :: p.gr := rfl
    rw [e, List.cons_append, mv1]
    refine .more (by rw [← mv1]; exact step_ng) ?_
    rw [show pre.length + (126 :: p.gr).length = pre.length + 1 + p.gr.length by rw [List.length_cons]; omega]
    exact ih
  | .im p q, hn, pre, rest, hr, ps, k, gs => by
    have ih := run_tx (.im p q) hn (pre ++ [40]) (41 :: rest) (nxt_sp rfl) [] (((ps, k)) :: gs)
    rw [len1] at ih
    have e : (Fm.im p q).gr = 40 :: ((Fm.im p q).tx ++ [41]) := rfl
    rw [e, List.cons_append, mv1, List.append_assoc (Fm.im p q).tx]
    refine .more (by rw [← mv1]; exact step_lp) (ih.trans (.more (s1 := ⟨pre.length + 1 + (Fm.im p q).tx.length + 1, addG (grpF ([] ++ spine (.im p q))) ((ps, k) :: gs), false⟩) ?_ ?_))
    · have e2 : (pre ++ [40]) ++ ((Fm.im p q).tx ++ 41 :: rest) = ((pre ++ [40]) ++ (Fm.im p q).tx) ++ 41 :: rest := (List.append_assoc _ _ _).symm
      have e3 : ((pre ++ [40]) ++ (Fm.im p q).tx).length = pre.length + 1 + (Fm.im p q).tx.length := by rw [List.length_append, len1]
      rw [e2, ← e3]
      exact step_rp
    · rw [List.nil_append, grpF_spine, show pre.length + (40 :: ((Fm.im p q).tx ++ [41])).length = pre.length + 1 + (Fm.im p q).tx.length + 1 by rw [List.length_cons, List.length_append]; simp only [List.length_cons, List.length_nil]; omega]
      exact .refl _
theorem run_tx : ∀ (f : Fm), Named f → ∀ (pre rest : List Nat), Nxt rest → ∀ (ps : List Fm) (gs : List Grp),
    Run (pre ++ (f.tx ++ rest)) ⟨pre.length, (ps, 0) :: gs, true⟩ ⟨pre.length + f.tx.length, (ps ++ spine f, 0) :: gs, false⟩
  | .lt n, hn, pre, rest, hr, ps, gs => run_letter (hn n (List.mem_singleton_self _)) hr ps 0 gs
  | .ng p, hn, pre, rest, hr, ps, gs => by
    have ih := run_gr p hn.ng (pre ++ [126]) rest hr ps 1 gs
    rw [len1] at ih
    rw [Fm.tx_ng, List.cons_append, mv1]
    refine .more (by rw [← mv1]; exact step_ng) ?_
    rw [show pre.length + (126 :: p.gr).length = pre.length + 1 + p.gr.length by rw [List.length_cons]; omega]
    exact ih
  | .im p q, hn, pre, rest, hr, ps, gs => by
    have i1 := run_gr p hn.l pre (32 :: 45 :: 62 :: 32 :: (q.tx ++ rest)) (nxt_sp rfl) ps 0 gs
    have i2 := run_tx q hn.r (pre ++ p.gr ++ [32, 45, 62, 32]) rest hr (ps ++ [p]) gs
    have e : pre ++ ((Fm.im p q).tx ++ rest) = pre ++ (p.gr ++ (32 :: 45 :: 62 :: 32 :: (q.tx ++ rest))) := by
      rw [Fm.tx_im]; simp only [List.append_assoc]; rfl
    rw [e]
    refine i1.trans ?_
    have e1 : pre ++ (p.gr ++ (32 :: 45 :: 62 :: 32 :: (q.tx ++ rest))) = (pre ++ p.gr) ++ 32 :: 45 :: 62 :: 32 :: (q.tx ++ rest) := by rw [List.append_assoc]
    have l1 : pre.length + p.gr.length = (pre ++ p.gr).length := by rw [List.length_append]
    rw [e1, l1]
    refine .more step_sp ?_
    rw [mv1, ← len1]
    refine .more step_ar ?_
    have e2 : pre ++ p.gr ++ [32] ++ 45 :: 62 :: 32 :: (q.tx ++ rest) = (pre ++ p.gr ++ [32, 45, 62]) ++ 32 :: (q.tx ++ rest) := by simp only [List.append_assoc]; rfl
    have l2 : (pre ++ p.gr ++ [32]).length + 2 = (pre ++ p.gr ++ [32, 45, 62]).length := by simp only [List.length_append]; rfl
    rw [e2, l2]
    refine .more step_sp ?_
    have e3 : (pre ++ p.gr ++ [32, 45, 62]) ++ 32 :: (q.tx ++ rest) = (pre ++ p.gr ++ [32, 45, 62, 32]) ++ (q.tx ++ rest) := by simp only [List.append_assoc]; rfl
    have l3 : (pre ++ p.gr ++ [32, 45, 62]).length + 1 = (pre ++ p.gr ++ [32, 45, 62, 32]).length := by simp only [List.length_append]; rfl
    rw [e3, l3]
    have l4 : (pre ++ p.gr ++ [32, 45, 62, 32]).length + q.tx.length = pre.length + (Fm.im p q).tx.length := by rw [Fm.tx_im]; simp only [List.length_append]; omega
    rw [show (pre ++ p.gr).length = pre.length + p.gr.length by rw [List.length_append]] at *
    rw [l4, List.append_assoc ps] at i2
    exact i2
end
theorem read_tx {f : Fm} (h : Named f) : Run f.tx ⟨0, [([], 0)], true⟩ ⟨f.tx.length, [(spine f, 0)], false⟩ := by
  have q := run_tx f h [] [] .nil [] []
  rw [List.append_nil, List.nil_append] at q
  rw [show ([] : List Nat).length + f.tx.length = f.tx.length by rw [List.length_nil, Nat.zero_add]] at q
  exact q
end Cs

namespace Cs
open PySem PySem.Spec PyProof.Rows L2
/-! ### xs[-2::-1]: all but the last one, from behind -/
theorem fm_congr {α β : Type} {f g : α → Option β} : ∀ {l : List α}, (∀ x ∈ l, f x = g x) → l.filterMap f = l.filterMap g
  | [], _ => rfl
  | x :: l, h => by
    rw [List.filterMap_cons, List.filterMap_cons, h x List.mem_cons_self, fm_congr fun y hy => h y (List.mem_cons_of_mem _ hy)]
theorem back_pick (items : List Value) : slicePick items.toArray (some (-2)) none (some (-1)) = items.dropLast.reverse.toArray := by
  have hb : sliceBounds (some (-2)) none (some (-1)) items.toArray.size = (((items.dropLast.toArray.size : Nat) : Int) - 1, -1, -1) := by
    simp only [sliceBounds, List.size_toArray, List.length_dropLast, Option.getD_some]
    refine Prod.ext ?_ rfl
    show max (-1) (min ((-2 : Int) + (items.length : Int)) ((items.length : Int) - 1)) = ((items.length - 1 : Nat) : Int) - 1
    omega
  unfold slicePick
  rw [hb]
  show ((sliceRange (((items.dropLast.toArray.size : Nat) : Int) - 1) (-1) (-1)).filterMap (items.toArray[·]?)).toArray = _
  have e : (sliceRange (((items.dropLast.toArray.size : Nat) : Int) - 1) (-1) (-1)).filterMap (items.toArray[·]?) = (sliceRange (((items.dropLast.toArray.size : Nat) : Int) - 1) (-1) (-1)).filterMap (items.dropLast.toArray[·]?) := by
    rw [PySem.W.krv_sliceRange, PySem.W.krv_range]
    refine fm_congr fun j hj => ?_
    have hj' : j < items.dropLast.length := by
      have := List.mem_range.mp (List.mem_reverse.mp hj)
      simpa using this
    show items.toArray[j]? = items.dropLast.toArray[j]?
    rw [List.getElem?_toArray, List.getElem?_toArray, List.getElem?_dropLast, if_pos (by rw [List.length_dropLast] at hj'; exact hj')]
  rw [e]
  have := PySem.W.krv_pick items.dropLast.toArray
  unfold slicePick at this
  rw [PySem.W.krv_bounds] at this
  exact this
def tBackL (K : PySem.W.Frag) (te : TE) : TE := fun σ H Q => te σ H fun x H1 => ∃ a xs, x = .ref a ∧ SqL K H1 a xs ∧ ∀ p, H1 p = none → Q (.ref p) (upd H1 p (.lst xs.dropLast.reverse))
theorem pe_backL {X : Cx} {e : Expr} {te : TE} {k k2 : Nat} {p1 p2 p3 p4 p5 pos : Pos} (he : PE X e te) : PE X (.Subscript e (.Slice (some (.UnaryOp .USub (.Constant (.int 2) k2 p4) p5)) none (some (.UnaryOp .USub (.Constant (.int 1) k p1) p2)) p3) pos) (tBackL X.K te) := by
  refine ⟨fun pins s σ H Q I h => ?_⟩
  refine Subscript_ (thn (he.run pins s σ H _ I h) fun v s1 ⟨x, H1, I1, r1, q1⟩ => ?_)
  obtain ⟨a, xs, ex, hx, q⟩ := q1
  subst ex
  cases r1
  have hst : PO X (some (.UnaryOp .USub (.Constant (.int 1) k p1) p2)) (tPart (tUn (rU fun i => .int (-i)) (tC (.int 1)))) := po_some (pe_un un_neg pe_int)
  have hlo : PO X (some (.UnaryOp .USub (.Constant (.int 2) k2 p4) p5)) (tPart (tUn (rU fun i => .int (-i)) (tC (.int 2)))) := po_some (pe_un un_neg pe_int)
  refine wpAny_Slice (thn (hlo.run pins s1 σ H1 (fun o H2 => o = some (-2) ∧ H2 = H1) I1 ⟨2, rfl, -2, rfl, rfl, rfl⟩) fun vl s2 ⟨l, H2, I2, pl, el, e2⟩ => ?_)
  subst el e2
  refine thn (po_none.run pins s2 σ H2 (fun o H3 => o = none ∧ H3 = H2) I2 ⟨rfl, rfl⟩) fun vu s3 ⟨u, H3, I3, pu, eu, e3⟩ => ?_
  subst eu e3
  refine thn (hst.run pins s3 σ H3 (fun o H4 => o = some (-1) ∧ H4 = H3) I3 ⟨1, rfl, -1, rfl, rfl, rfl⟩) fun vs s4 ⟨o, H4, I4, ps, eo, e4⟩ => ?_
  subst eo e4
  have I5 : Inv X pins σ H4 { s4 with heap := s4.heap.push { cls := .type "slice", data := .fields #[vl, vu, vs] } } := I4.kept (t' := s4.toks) fun b ob q => Heap.get?_push_of_some _ q
  obtain ⟨its, r, ht, hz⟩ := I5.list hx
  have hlen := r.length
  show wpAny (model X.prog X.w) X.A (subscriptTail e (.Slice (some (.UnaryOp .USub (.Constant (.int 2) k2 p4) p5)) none (some (.UnaryOp .USub (.Constant (.int 1) k p1) p2)) p3) (.ref a) (.ref s4.heap.objs.size)) (EP X pins σ Q) X.xe { s4 with heap := s4.heap.push { cls := .type "slice", data := .fields #[vl, vu, vs] } }
  refine tail_any (ops := [.ref a, .ref s4.heap.objs.size]) ht.isList.typeIs (PySem.slot_list_getitem.lookup) ?_ (by with_unfolding_all rfl)
  refine wpAny_getItem_list_slice ht.isList (Heap.IsSliceOf.new _ vl vu vs) pl pu ps (by decide) ?_ (by rw [List.size_toArray]; omega)
  rw [back_pick]
  have rd : Vals xs.dropLast.reverse its.dropLast.reverse := by
    rw [List.dropLast_eq_take, List.dropLast_eq_take, ← hlen]
    exact (r.take (xs.length - 1)).reverse
  refine ⟨.ref _, _, I5.laid (t' := s4.toks) (o := .lst xs.dropLast.reverse) (fun b ob q => Heap.get?_push_of_some _ q) (Nat.le_refl _) ?_, rfl, q _ (I5.hok.fresh (Nat.le_refl _))⟩
  exact ⟨by rw [List.length_reverse, List.length_dropLast]; omega, _, 0, rd, Heap.get?_push_size _ rfl⟩
end Cs

namespace Cs
open PySem PySem.Spec PyProof.Rows L2
/-! ### the groups and the reader as objects -/
def gf (l : Addr) (n : Nat) : List (Str × V) := [("parts", .ref l), ("negations", .int n)]
def rf (t : List Nat) (p : Nat) (gl : Addr) (w : Bool) : List (Str × V) := [("text", .str (SX.S t)), ("place", .int p), ("groups", .ref gl), ("wants", .bl w)]
theorem k1 : ¬ (("parts" : Str) = "negations") := by decide +kernel
theorem k2 : ¬ (("text" : Str) = "place") := by decide +kernel
theorem k3 : ¬ (("text" : Str) = "groups") := by decide +kernel
theorem k4 : ¬ (("text" : Str) = "wants") := by decide +kernel
theorem k5 : ¬ (("place" : Str) = "groups") := by decide +kernel
theorem k6 : ¬ (("place" : Str) = "wants") := by decide +kernel
theorem k7 : ¬ (("groups" : Str) = "wants") := by decide +kernel
theorem k8 : ¬ (("text" : Str) = "parts") := by decide +kernel
theorem gf_0 (l : Addr) : putF "parts" (.ref l) [] = [(("parts" : Str), V.ref l)] := rfl
theorem gf_1 (l : Addr) (n : Nat) : putF "negations" (.int n) [(("parts" : Str), V.ref l)] = gf l n := by
  simp only [putF, if_neg k1]; rfl
theorem gf_put (l : Addr) (n m : Nat) : putF "negations" (.int m) (gf l n) = gf l m := by
  simp only [gf, putF, if_neg k1, if_true]
theorem lk_ne {f g : Str} {v : V} {r : List (Str × V)} (h : ¬ (g = f)) : List.lookup f ((g, v) :: r) = List.lookup f r := by
  rw [List.lookup_cons]
  have : (f == g) = false := by
    cases e : f == g
    · rfl
    · exact absurd (eq_of_beq e).symm h
  rw [this]
theorem lk_eq {f : Str} {v : V} {r : List (Str × V)} : List.lookup f ((f, v) :: r) = some v := by
  rw [List.lookup_cons, beq_self_eq_true]
theorem gf_parts (l : Addr) (n : Nat) : (gf l n).lookup ("parts" : Str) = some (.ref l) := lk_eq
theorem gf_neg (l : Addr) (n : Nat) : (gf l n).lookup ("negations" : Str) = some (.int n) := by
  unfold gf; rw [lk_ne k1, lk_eq]
theorem gf_no (l : Addr) (n : Nat) {m : Str} (h1 : ¬ ("parts" : Str) = m) (h2 : ¬ ("negations" : Str) = m) : (gf l n).lookup m = none := by
  unfold gf; rw [lk_ne h1, lk_ne h2]; rfl
section
variable (t : List Nat) (p q : Nat) (gl : Addr) (w : Bool)
theorem rf_text : (rf t p gl w).lookup ("text" : Str) = some (.str (SX.S t)) := lk_eq
theorem rf_place : (rf t p gl w).lookup ("place" : Str) = some (.int p) := by unfold rf; rw [lk_ne k2, lk_eq]
theorem rf_groups : (rf t p gl w).lookup ("groups" : Str) = some (.ref gl) := by unfold rf; rw [lk_ne k3, lk_ne k5, lk_eq]
theorem rf_wants : (rf t p gl w).lookup ("wants" : Str) = some (.bl w) := by unfold rf; rw [lk_ne k4, lk_ne k6, lk_ne k7, lk_eq]
theorem rf_no {m : Str} (h1 : ¬ ("text" : Str) = m) (h2 : ¬ ("place" : Str) = m) (h3 : ¬ ("groups" : Str) = m) (h4 : ¬ ("wants" : Str) = m) : (rf t p gl w).lookup m = none := by
  unfold rf; rw [lk_ne h1, lk_ne h2, lk_ne h3, lk_ne h4]; rfl
theorem rf_pp : putF "place" (.int q) (rf t p gl w) = rf t q gl w := by
  simp only [rf, putF, if_neg k2, if_true]
theorem rf_pw (v : Bool) : putF "wants" (.bl v) (rf t p gl w) = rf t p gl v := by
  simp only [rf, putF, if_neg k4, if_neg k6, if_neg k7, if_true]
theorem rf_1 : putF "text" (.str (SX.S t)) [] = [(("text" : Str), V.str (SX.S t))] := rfl
theorem rf_2 : putF "place" (.int p) [(("text" : Str), V.str (SX.S t))] = [(("text" : Str), V.str (SX.S t)), ("place", .int p)] := by
  simp only [putF, if_neg k2]
theorem rf_3 : putF "groups" (.ref gl) [(("text" : Str), V.str (SX.S t)), ("place", .int p)] = [(("text" : Str), V.str (SX.S t)), ("place", .int p), ("groups", .ref gl)] := by
  simp only [putF, if_neg k3, if_neg k5]
theorem rf_4 : putF "wants" (.bl w) [(("text" : Str), V.str (SX.S t)), ("place", .int p), ("groups", .ref gl)] = rf t p gl w := by
  simp only [putF, if_neg k4, if_neg k6, if_neg k7]; rfl
end
/-- a group stands at g, its list at l -/
structure GrpAt (K : PySem.W.Frag) (CG : Addr) (H : Hp) (g l : Addr) (ps : List Fm) (n : Nat) : Prop where
  ob : ∃ dx, H g = some (.ins CG dx (gf l n))
  ls : ∃ xs, H l = some (.lst xs) ∧ DtAll K H xs (ps.map Fm.d)
theorem GrpAt.gx {K : PySem.W.Frag} {CG : Addr} {S : List Addr} {H H' : Hp} {g l : Addr} {ps : List Fm} {n : Nat} (x : Gx S H H') (hg : g ∉ S) (hl : l ∉ S) (G : GrpAt K CG H g l ps n) : GrpAt K CG H' g l ps n := by
  obtain ⟨⟨dx, h1⟩, xs, h2, h3⟩ := G
  exact ⟨⟨dx, x.keep _ _ hg h1 fun ps e => nomatch e⟩, xs, x.lst h2 hl, x.dts h3⟩
theorem ins_ne {C D dx dy l gl : Addr} {t : List Nat} {p n : Nat} {w : Bool} : HO.ins C dx (rf t p gl w) ≠ HO.ins D dy (gf l n) := fun e => by
  injection e with _ _ e
  have e2 : (("text" : Str), V.str (SX.S t)) = (("parts" : Str), V.ref l) := (List.cons.inj e).1
  exact k8 (Prod.mk.inj e2).1
/-- a reader stands at r: its list of groups at gl, the groups (the top first) and their lists at as; all of it new since H0 -/
structure RdX (K : PySem.W.Frag) (CG CR : Addr) (H0 H : Hp) (r : Addr) (t : List Nat) (s : RS) (dx gl : Addr) (as : List (Addr × Addr)) : Prop where
  gr : Gr H0 H
  ob : H r = some (.ins CR dx (rf t s.p gl s.wants))
  gs : H gl = some (.lst (as.map fun x => V.ref x.1).reverse)
  al : Paired (fun (a : Addr × Addr) (g : Grp) => GrpAt K CG H a.1 a.2 g.1 g.2) as s.gs
  n1 : (as.map (·.1)).Nodup
  n2 : (gl :: as.map (·.2)).Nodup
  r0 : H0 r = none
  g0 : H0 gl = none
  a0 : ∀ a ∈ as, H0 a.1 = none ∧ H0 a.2 = none
def RdAt (K : PySem.W.Frag) (CG CR : Addr) (H0 H : Hp) (r : Addr) (t : List Nat) (s : RS) : Prop := ∃ dx gl as, RdX K CG CR H0 H r t s dx gl as
theorem paired_mem {α β : Type} {F : α → β → Prop} : ∀ {l : List α} {m : List β} {a : α}, Paired F l m → a ∈ l → ∃ b ∈ m, F a b
  | _, _, _, .nil, h => nomatch h
  | _, _, a, .cons r q, h => by
    rcases List.mem_cons.mp h with rfl | h
    · exact ⟨_, List.mem_cons_self, r⟩
    · obtain ⟨b, m, f⟩ := paired_mem q h
      exact ⟨b, List.mem_cons_of_mem _ m, f⟩
theorem paired_gx {K : PySem.W.Frag} {CG : Addr} {S : List Addr} {H H' : Hp} (x : Gx S H H') : ∀ {as : List (Addr × Addr)} {gs : List Grp}, Paired (fun (a : Addr × Addr) (g : Grp) => GrpAt K CG H a.1 a.2 g.1 g.2) as gs →
    (∀ a ∈ as, a.1 ∉ S ∧ a.2 ∉ S) → Paired (fun (a : Addr × Addr) (g : Grp) => GrpAt K CG H' a.1 a.2 g.1 g.2) as gs
  | _, _, .nil, _ => .nil
  | _, _, .cons r q, h => .cons (r.gx x (h _ List.mem_cons_self).1 (h _ List.mem_cons_self).2) (paired_gx x q fun a m => h a (List.mem_cons_of_mem _ m))
section
variable {K : PySem.W.Frag} {CG CR : Addr} {H0 H H' : Hp} {r : Addr} {t : List Nat} {s : RS} {dx gl : Addr} {as : List (Addr × Addr)}
theorem RdX.ne_r (R : RdX K CG CR H0 H r t s dx gl as) : r ≠ gl ∧ ∀ a ∈ as, r ≠ a.1 ∧ r ≠ a.2 ∧ gl ≠ a.1 ∧ gl ≠ a.2 := by
  refine ⟨ne_of R.ob R.gs (fun e => nomatch e), fun a ha => ?_⟩
  obtain ⟨g, _, ⟨dy, h1⟩, xs, h2, _⟩ := paired_mem R.al ha
  refine ⟨ne_of R.ob h1 ins_ne, ne_of R.ob h2 (fun e => nomatch e), ne_of R.gs h1 (fun e => nomatch e), fun e => ?_⟩
  have := (List.nodup_cons.mp R.n2).1
  exact this (by rw [e]; exact List.mem_map.mpr ⟨a, ha, rfl⟩)
/-- place and wants are set -/
theorem RdX.setR (R : RdX K CG CR H0 H r t s dx gl as) (p : Nat) (w : Bool) : RdX K CG CR H0 (upd H r (.ins CR dx (rf t p gl w))) r t ⟨p, s.gs, w⟩ dx gl as := by
  obtain ⟨e1, e2⟩ := R.ne_r
  have g : Gx [r] H (upd H r (.ins CR dx (rf t p gl w))) := Gx.set R.ob rfl
  exact ⟨R.gr.drop g (fun a m => by rw [List.mem_singleton.mp m]; exact .inr R.r0), upd_same, by rw [upd_ne e1.symm]; exact R.gs,
    paired_gx g R.al fun a ha => ⟨by simp [(e2 a ha).1.symm], by simp [(e2 a ha).2.1.symm]⟩, R.n1, R.n2, R.r0, R.g0, R.a0⟩
/-- the heap grows -/
theorem RdX.grow (R : RdX K CG CR H0 H r t s dx gl as) (g : Gr H H') : RdX K CG CR H0 H' r t s dx gl as :=
  ⟨R.gr.trans g, gr_some g R.ob (fun ps e => nomatch e), g.lst R.gs (fun m => nomatch m), paired_gx g R.al (fun a _ => ⟨(fun m => nomatch m), (fun m => nomatch m)⟩), R.n1, R.n2, R.r0, R.g0, R.a0⟩
/-- the group on top is another one -/
theorem RdX.setTop {a : Addr × Addr} {g g' : Grp} {gs : List Grp} {p : Nat} {w : Bool} (R : RdX K CG CR H0 H r t ⟨p, g :: gs, w⟩ dx gl (a :: as)) (x : Gx [a.1, a.2] H H') (G : GrpAt K CG H' a.1 a.2 g'.1 g'.2) :
    RdX K CG CR H0 H' r t ⟨p, g' :: gs, w⟩ dx gl (a :: as) := by
  obtain ⟨e1, e2⟩ := R.ne_r
  obtain ⟨f1, f2, f3, f4⟩ := e2 a List.mem_cons_self
  have n1 := List.nodup_cons.mp (show (a.1 :: as.map (·.1)).Nodup from R.n1)
  have n2 := List.nodup_cons.mp (List.nodup_cons.mp (show (gl :: a.2 :: as.map (·.2)).Nodup from R.n2)).2
  have hal := R.al
  cases hal with
  | cons q0 q1 =>
    refine ⟨R.gr.drop x (fun b m => ?_), x.keep _ _ (by simp [f1, f2]) R.ob (fun ps e => nomatch e), x.lst R.gs (by simp [f3, f4]), .cons G (paired_gx x q1 fun b hb => ?_), R.n1, R.n2, R.r0, R.g0, R.a0⟩
    · rcases List.mem_cons.mp m with rfl | m
      · exact .inr (R.a0 a List.mem_cons_self).1
      · rw [List.mem_singleton.mp m]; exact .inr (R.a0 a List.mem_cons_self).2
    · obtain ⟨g1, _, ⟨dy, h1⟩, ys, h2, _⟩ := paired_mem q1 hb
      obtain ⟨⟨dz, h3⟩, zs, h4, _⟩ := q0
      have b1 : b.1 ≠ a.1 := fun e => n1.1 (by rw [← e]; exact List.mem_map.mpr ⟨b, hb, rfl⟩)
      have b2 : b.2 ≠ a.2 := fun e => n2.1 (by rw [← e]; exact List.mem_map.mpr ⟨b, hb, rfl⟩)
      have b3 : b.1 ≠ a.2 := ne_of h1 h4 (fun e => nomatch e)
      have b4 : b.2 ≠ a.1 := ne_of h2 h3 (fun e => nomatch e)
      exact ⟨by simp [b1, b3], by simp [b2, b4]⟩
/-- a new group on top -/
theorem RdX.push {g l : Addr} (R : RdX K CG CR H0 H r t s dx gl as) (G : GrpAt K CG H g l [] 0) (x0 : H0 g = none) (x1 : H0 l = none) (x2 : ∀ a ∈ as, g ≠ a.1 ∧ l ≠ a.2) (x3 : gl ≠ l) :
    RdX K CG CR H0 (upd H gl (.lst ((as.map fun x => V.ref x.1).reverse ++ [.ref g]))) r t ⟨s.p, ([], 0) :: s.gs, s.wants⟩ dx gl ((g, l) :: as) := by
  obtain ⟨e1, e2⟩ := R.ne_r
  have x : Gx [gl] H (upd H gl (.lst ((as.map fun x => V.ref x.1).reverse ++ [.ref g]))) := Gx.set R.gs rfl
  obtain ⟨⟨dy, h1⟩, ys, h2, _⟩ := id G
  have ggl : g ≠ gl := ne_of h1 R.gs (fun e => nomatch e)
  refine ⟨R.gr.drop x (fun a m => by rw [List.mem_singleton.mp m]; exact .inr R.g0), by rw [upd_ne e1]; exact R.ob, ?_, .cons (G.gx x (by simp [ggl]) (by simp [x3.symm])) (paired_gx x R.al fun a ha => ⟨by simp [(e2 a ha).2.2.1.symm], by simp [(e2 a ha).2.2.2.symm]⟩), ?_, ?_, R.r0, R.g0, ?_⟩
  · rw [upd_same, List.map_cons, List.reverse_cons]
  · refine List.nodup_cons.mpr ⟨fun m => ?_, R.n1⟩
    obtain ⟨a, ha, e⟩ := List.mem_map.mp m
    exact (x2 a ha).1 e.symm
  · have n := List.nodup_cons.mp R.n2
    refine List.nodup_cons.mpr ⟨fun m => ?_, List.nodup_cons.mpr ⟨fun m => ?_, n.2⟩⟩
    · rcases List.mem_cons.mp m with e | m
      · exact x3 e
      · exact n.1 m
    · obtain ⟨a, ha, e⟩ := List.mem_map.mp m
      exact (x2 a ha).2 e.symm
  · intro a ha
    rcases List.mem_cons.mp ha with rfl | ha
    · exact ⟨x0, x1⟩
    · exact R.a0 a ha
/-- the top is taken -/
theorem RdX.pop {a : Addr × Addr} {g : Grp} {gs : List Grp} {p : Nat} {w : Bool} (R : RdX K CG CR H0 H r t ⟨p, g :: gs, w⟩ dx gl (a :: as)) :
    RdX K CG CR H0 (upd H gl (.lst (((a :: as).map fun x => V.ref x.1).reverse).dropLast)) r t ⟨p, gs, w⟩ dx gl as ∧ GrpAt K CG (upd H gl (.lst (((a :: as).map fun x => V.ref x.1).reverse).dropLast)) a.1 a.2 g.1 g.2 := by
  obtain ⟨e1, e2⟩ := R.ne_r
  have x : Gx [gl] H (upd H gl (.lst (((a :: as).map fun x => V.ref x.1).reverse).dropLast)) := Gx.set R.gs rfl
  have hal := R.al
  cases hal with
  | cons q0 q1 =>
    obtain ⟨f1, f2, f3, f4⟩ := e2 a List.mem_cons_self
    have n := List.nodup_cons.mp (show (gl :: a.2 :: as.map (·.2)).Nodup from R.n2)
    refine ⟨⟨R.gr.drop x (fun a m => by rw [List.mem_singleton.mp m]; exact .inr R.g0), by rw [upd_ne e1]; exact R.ob, ?_, paired_gx x q1 fun b hb => ?_, (List.nodup_cons.mp (show (a.1 :: as.map (·.1)).Nodup from R.n1)).2,
      List.nodup_cons.mpr ⟨fun m => n.1 (List.mem_cons_of_mem _ m), (List.nodup_cons.mp n.2).2⟩, R.r0, R.g0, fun b hb => R.a0 b (List.mem_cons_of_mem _ hb)⟩, q0.gx x (by simp [f3.symm]) (by simp [f4.symm])⟩
    · rw [upd_same, List.map_cons, List.reverse_cons, List.dropLast_concat]
    · have := e2 b (List.mem_cons_of_mem _ hb)
      exact ⟨by simp [this.2.2.1.symm], by simp [this.2.2.2.symm]⟩
end
theorem negs_succ : ∀ (n : Nat) (f : Fm), negs (n + 1) f = .ng (negs n f)
  | 0, _ => rfl
  | n + 1, f => negs_succ n (.ng f)
/-- a new object and its own dict -/
theorem gr_made {H : Hp} {x dx C : Addr} (nx : H x = none) (nd : H dx = none) (ne : dx ≠ x) : Gr H (upd (upd H dx (.own x)) x (.ins C dx [])) :=
  (Gx.new nd).trans (Gx.new (by rw [upd_ne ne.symm]; exact nx))
section
variable {K : PySem.W.Frag} {CG CR : Addr} {H0 H H' : Hp} {r : Addr} {t : List Nat} {s : RS} {dx gl : Addr} {as : List (Addr × Addr)}
theorem RdX.inc (R : RdX K CG CR H0 H r t s dx gl as) (k : Nat) {z : Int} (hz : z = ((s.p + k : Nat) : Int)) : RdX K CG CR H0 (upd H r (.ins CR dx (putF "place" (.int z) (rf t s.p gl s.wants)))) r t ⟨s.p + k, s.gs, s.wants⟩ dx gl as := by
  subst hz; rw [rf_pp]; exact R.setR _ _
theorem RdX.setW (R : RdX K CG CR H0 H r t s dx gl as) (w : Bool) : RdX K CG CR H0 (upd H r (.ins CR dx (putF "wants" (.bl w) (rf t s.p gl s.wants)))) r t ⟨s.p, s.gs, w⟩ dx gl as := by
  rw [rf_pw]; exact R.setR _ _
end
theorem top_at {a : Addr × Addr} {as : List (Addr × Addr)} : atI ((a :: as).map fun x => V.ref x.1).reverse (-1) = some (.ref a.1) := by
  rw [List.map_cons, List.reverse_cons]; exact atI_last _ _
theorem bot_at {a : Addr × Addr} : atI ([a].map fun x => V.ref x.1).reverse 0 = some (.ref a.1) := rfl
/-! ### signs -/
theorem one_eq (c k : Nat) : decide (V.str ⟨#[c]⟩ = V.str (SX.S [k])) = decide (c = k) := by
  by_cases e : c = k
  · subst e; rw [decide_eq_true rfl, decide_eq_true rfl]
  · rw [decide_eq_false e, decide_eq_false]
    intro h
    injection h with h
    have : [c] = [k] := SX.S_inj (a := [c]) (b := [k]) h
    exact e (List.cons.inj this).1
theorem z_sp : (" " : Str) = SX.S [32] := by decide +kernel
theorem z_mi : ("-" : Str) = SX.S [45] := by decide +kernel
theorem z_gt : (">" : Str) = SX.S [62] := by decide +kernel
theorem z_tl : ("~" : Str) = SX.S [126] := by decide +kernel
theorem z_pl : ("(" : Str) = SX.S [40] := by decide +kernel
theorem z_pr : (")" : Str) = SX.S [41] := by decide +kernel
theorem in_small (c : Nat) : decide (c ∈ ("abcdefghijklmnopqrstuvwxyz" : Str).cps.toList) = small c := by
  have h1 : ∀ j ∈ List.range 26, 97 + j ∈ ("abcdefghijklmnopqrstuvwxyz" : Str).cps.toList := by decide +kernel
  have h2 : ∀ c ∈ ("abcdefghijklmnopqrstuvwxyz" : Str).cps.toList, small c = true := by decide +kernel
  rw [Bool.eq_iff_iff, decide_eq_true_eq]
  refine ⟨h2 c, fun h => ?_⟩
  unfold small at h
  rw [Bool.and_eq_true, decide_eq_true_eq, decide_eq_true_eq] at h
  have := h1 (c - 97) (List.mem_range.mpr (by omega))
  rwa [show 97 + (c - 97) = c by omega] at this
theorem in_digit (c : Nat) : decide (c ∈ ("0123456789" : Str).cps.toList) = digit c := by
  have h1 : ∀ j ∈ List.range 10, 48 + j ∈ ("0123456789" : Str).cps.toList := by decide +kernel
  have h2 : ∀ c ∈ ("0123456789" : Str).cps.toList, digit c = true := by decide +kernel
  rw [Bool.eq_iff_iff, decide_eq_true_eq]
  refine ⟨h2 c, fun h => ?_⟩
  unfold digit at h
  rw [Bool.and_eq_true, decide_eq_true_eq, decide_eq_true_eq] at h
  have := h1 (c - 48) (List.mem_range.mpr (by omega))
  rwa [show 48 + (c - 48) = c by omega] at this
theorem cut_one (t : List Nat) (p : Nat) : cutS (SX.S t) (some ((p : Int) + 1)) (some ((p : Int) + 2)) = SX.S (match t[p + 1]? with | some d => [d] | none => []) := by
  have e1 : ((p : Int) + 1) = ((p + 1 : Nat) : Int) := rfl
  have e2 : ((p : Int) + 2) = ((p + 2 : Nat) : Int) := rfl
  unfold cutS
  rw [e1, e2, HT.sIx_nat, HT.sIx_nat, SX.S_len]
  show SX.S _ = SX.S _
  refine congrArg SX.S ?_
  cases h : t[p + 1]? with
  | none =>
    have hl : t.length ≤ p + 1 := List.getElem?_eq_none_iff.mp h
    show List.take _ (t.drop (min (p + 1) t.length)) = []
    rw [List.drop_eq_nil_of_le (by omega)]; simp
  | some d =>
    obtain ⟨hl, e⟩ := List.getElem?_eq_some_iff.mp h
    show List.take _ (t.drop (min (p + 1) t.length)) = [d]
    rw [show min (p + 1) t.length = p + 1 by omega, show min (p + 2) t.length - (p + 1) = 1 by omega, List.drop_eq_getElem_cons hl, e]; rfl
/-- the bounds and the shape of what is read -/
structure Bd (s : RS) : Prop where
  n : ∀ g ∈ s.gs, g.1.length ≤ s.p ∧ g.2 ≤ s.p
  m : s.gs.length ≤ s.p + 1
  w : s.wants = false → ∃ g gs, s.gs = g :: gs ∧ g.1 ≠ []
  ne : s.gs ≠ []
theorem Bd.add {f : Fm} {g : Grp} {gs : List Grp} {p q : Nat} (h : ∀ x ∈ g :: gs, x.1.length ≤ p ∧ x.2 ≤ p) (hm : (g :: gs).length ≤ p + 1) (l : p < q) (w : Bool) : Bd ⟨q, addG f (g :: gs), w⟩ := by
  obtain ⟨ps, n⟩ := g
  refine ⟨fun x hx => ?_, ?_, fun _ => ⟨_, _, rfl, by simp⟩, List.cons_ne_nil _ _⟩
  · rcases List.mem_cons.mp hx with rfl | hx
    · have := (h _ List.mem_cons_self).1
      show (ps ++ [negs n f]).length ≤ q ∧ 0 ≤ q
      rw [List.length_append, List.length_singleton]
      have h2 : ps.length ≤ p := this
      omega
    · have := h x (List.mem_cons_of_mem _ hx)
      show x.1.length ≤ q ∧ x.2 ≤ q
      omega
  · show (gs.length + 1) ≤ q + 1
    have : gs.length + 1 ≤ p + 1 := hm
    omega
theorem nameAt_pos (t : List Nat) (p c : Nat) : 1 ≤ (nameAt t p c).length ∧ (nameAt t p c).length ≤ 2 := by
  unfold nameAt
  split
  · split <;> simp
  · simp
theorem bd_step {t : List Nat} {s s' : RS} (B : Bd s) (h : stepS t s = some s') : Bd s' ∧ s.p < s'.p := by
  unfold stepS at h
  split at h
  · cases h
  · rename_i c hc
    split at h
    · cases h
      exact ⟨⟨fun g hg => by have := B.n g hg; exact ⟨Nat.le_succ_of_le this.1, Nat.le_succ_of_le this.2⟩, Nat.le_succ_of_le B.m, B.w, B.ne⟩, Nat.lt_succ_self _⟩
    · split at h
      · rename_i hw
        unfold startS at h
        split at h
        · split at h
          · rename_i ps n r hg
            cases h
            refine ⟨⟨fun g hg2 => ?_, ?_, fun z => (by rw [hw] at z; cases z), List.cons_ne_nil _ _⟩, Nat.lt_succ_self _⟩
            · rcases List.mem_cons.mp hg2 with rfl | hg2
              · have := B.n (ps, n) (by rw [hg]; exact List.mem_cons_self)
                exact ⟨Nat.le_succ_of_le this.1, Nat.succ_le_succ this.2⟩
              · have := B.n g (by rw [hg]; exact List.mem_cons_of_mem _ hg2)
                exact ⟨Nat.le_succ_of_le this.1, Nat.le_succ_of_le this.2⟩
            · have := B.m
              rw [hg] at this
              exact Nat.le_succ_of_le this
          · cases h
        · split at h
          · cases h
            refine ⟨⟨fun g hg2 => ?_, Nat.succ_le_succ B.m, fun z => (by rw [hw] at z; cases z), List.cons_ne_nil _ _⟩, Nat.lt_succ_self _⟩
            rcases List.mem_cons.mp hg2 with rfl | hg2
            · exact ⟨Nat.zero_le _, Nat.zero_le _⟩
            · have := B.n g hg2
              exact ⟨Nat.le_succ_of_le this.1, Nat.le_succ_of_le this.2⟩
          · split at h
            · cases h
              have hp := nameAt_pos t s.p c
              have lt : s.p < s.p + (nameAt t s.p c).length := by omega
              cases hg : s.gs with
              | nil =>
                exact absurd hg B.ne
              | cons g gs =>
                have b := B.n; have m := B.m
                rw [hg] at b m
                exact ⟨Bd.add b m lt _, lt⟩
            · cases h
      · rename_i hw
        unfold goS at h
        split at h
        · split at h
          · cases h
            exact ⟨⟨fun g hg => by have := B.n g hg; exact ⟨by show g.1.length ≤ s.p + 2; omega, by show g.2 ≤ s.p + 2; omega⟩, by show s.gs.length ≤ s.p + 2 + 1; have := B.m; omega, fun z => (by cases z), B.ne⟩, by show s.p < s.p + 2; omega⟩
          · cases h
        · split at h
          · split at h
            · rename_i g g2 r hg
              cases h
              have b := B.n; have m := B.m
              rw [hg] at b m
              exact ⟨Bd.add (fun x hx => b x (List.mem_cons_of_mem _ hx)) (by have : (g2 :: r).length + 1 ≤ s.p + 1 := m; omega) (Nat.lt_succ_self _) _, Nat.lt_succ_self _⟩
            · cases h
          · cases h
end Cs

namespace Cs
open PySem PySem.Spec PyProof.Rows L2
/-! ### looser texts: plain law -/
abbrev bl (n : Nat) : List Nat := List.replicate n 32
/-- a text that is one part: read behind k negations it is one more part of the group -/
def GT (f : Fm) (T : List Nat) : Prop := ∀ (pre rest : List Nat), Nxt rest → ∀ (ps : List Fm) (k : Nat) (gs : List Grp),
  Run (pre ++ (T ++ rest)) ⟨pre.length, (ps, k) :: gs, true⟩ ⟨pre.length + T.length, (ps ++ [negs k f], 0) :: gs, false⟩
/-- a text of a formula -/
def TT (f : Fm) (T : List Nat) : Prop := ∃ L : List Fm, L ≠ [] ∧ grpF L = f ∧ ∀ (pre rest : List Nat), Nxt rest → ∀ (ps : List Fm) (gs : List Grp),
  Run (pre ++ (T ++ rest)) ⟨pre.length, (ps, 0) :: gs, true⟩ ⟨pre.length + T.length, (ps ++ L, 0) :: gs, false⟩
theorem GT.tt {f : Fm} {T : List Nat} (h : GT f T) : TT f T := ⟨[f], List.cons_ne_nil _ _, rfl, fun pre rest hr ps gs => h pre rest hr ps 0 gs⟩
theorem run_bl (n : Nat) : ∀ (pre rest : List Nat) (gs : List Grp) (w : Bool), Run (pre ++ (bl n ++ rest)) ⟨pre.length, gs, w⟩ ⟨pre.length + n, gs, w⟩ := by
  induction n with
  | zero => intro pre rest gs w; exact .refl _
  | succ n ih =>
    intro pre rest gs w
    have e : pre ++ (bl (n + 1) ++ rest) = pre ++ 32 :: (bl n ++ rest) := by rw [show bl (n + 1) = 32 :: bl n from List.replicate_succ]; rfl
    rw [e]
    refine .more step_sp ?_
    have := ih (pre ++ [32]) rest gs w
    rw [len1] at this
    rw [mv1, show pre.length + (n + 1) = pre.length + 1 + n by omega]
    exact this
theorem nxt_bl {n : Nat} {r : List Nat} (h : Nxt r) : Nxt (bl n ++ r) := by
  cases n with
  | zero => exact h
  | succ n => rw [show bl (n + 1) = 32 :: bl n from List.replicate_succ]; exact nxt_sp rfl
theorem bl_len (n : Nat) : (bl n).length = n := List.length_replicate
theorem gt_lt {n : Str} (h : Nm n) : GT (.lt n) n.cps.toList := fun pre rest hr ps k gs => run_letter h hr ps k gs
/-- in parentheses -/
theorem gt_par {f : Fm} {T : List Nat} (h : TT f T) (n m : Nat) : GT f (40 :: (bl n ++ (T ++ (bl m ++ [41])))) := by
  obtain ⟨L, hL, hf, h⟩ := h
  intro pre rest hr ps k gs
  have e : pre ++ (40 :: (bl n ++ (T ++ (bl m ++ [41]))) ++ rest) = (pre ++ [40]) ++ (bl n ++ (T ++ (bl m ++ 41 :: rest))) := by
    simp only [List.append_assoc, List.cons_append, List.nil_append]
  rw [e]
  refine .more (s1 := ⟨(pre ++ [40]).length, ([], 0) :: (ps, k) :: gs, true⟩) (by rw [← mv1, len1]; exact step_lp) ?_
  refine (run_bl n (pre ++ [40]) _ _ _).trans ?_
  have e2 : (pre ++ [40]) ++ (bl n ++ (T ++ (bl m ++ 41 :: rest))) = ((pre ++ [40]) ++ bl n) ++ (T ++ (bl m ++ 41 :: rest)) := by simp only [List.append_assoc]
  have l2 : (pre ++ [40]).length + n = ((pre ++ [40]) ++ bl n).length := by rw [List.length_append (as := pre ++ [40]), bl_len]
  rw [e2, l2]
  refine (h _ _ (nxt_bl (nxt_sp rfl)) [] _).trans ?_
  have e3 : ((pre ++ [40]) ++ bl n) ++ (T ++ (bl m ++ 41 :: rest)) = (((pre ++ [40]) ++ bl n) ++ T) ++ (bl m ++ 41 :: rest) := by simp only [List.append_assoc]
  have l3 : ((pre ++ [40]) ++ bl n).length + T.length = (((pre ++ [40]) ++ bl n) ++ T).length := by rw [List.length_append (as := (pre ++ [40]) ++ bl n)]
  rw [e3, l3]
  refine (run_bl m _ _ _ _).trans ?_
  have e4 : (((pre ++ [40]) ++ bl n) ++ T) ++ (bl m ++ 41 :: rest) = ((((pre ++ [40]) ++ bl n) ++ T) ++ bl m) ++ 41 :: rest := by simp only [List.append_assoc]
  have l4 : (((pre ++ [40]) ++ bl n) ++ T).length + m = ((((pre ++ [40]) ++ bl n) ++ T) ++ bl m).length := by rw [List.length_append (as := ((pre ++ [40]) ++ bl n) ++ T), bl_len]
  rw [e4, l4]
  refine .more step_rp ?_
  have l5 : ((((pre ++ [40]) ++ bl n) ++ T) ++ bl m).length + 1 = pre.length + (40 :: (bl n ++ (T ++ (bl m ++ [41])))).length := by
    simp only [List.length_append, List.length_cons, List.length_nil]; omega
  rw [l5]
  show Run _ ⟨_, addG (grpF ([] ++ L)) ((ps, k) :: gs), false⟩ _
  rw [List.nil_append, hf]
  exact .refl _
theorem gt_ng {p : Fm} {T : List Nat} (h : GT p T) (n : Nat) : GT (.ng p) (126 :: (bl n ++ T)) := by
  intro pre rest hr ps k gs
  have e : pre ++ (126 :: (bl n ++ T) ++ rest) = (pre ++ [126]) ++ (bl n ++ (T ++ rest)) := by simp only [List.append_assoc, List.cons_append, List.nil_append]
  rw [e]
  refine .more (s1 := ⟨(pre ++ [126]).length, (ps, k + 1) :: gs, true⟩) (by rw [← mv1, len1]; exact step_ng) ?_
  refine (run_bl n (pre ++ [126]) _ _ _).trans ?_
  have e2 : (pre ++ [126]) ++ (bl n ++ (T ++ rest)) = ((pre ++ [126]) ++ bl n) ++ (T ++ rest) := by simp only [List.append_assoc]
  have l2 : (pre ++ [126]).length + n = ((pre ++ [126]) ++ bl n).length := by rw [List.length_append (as := pre ++ [126]), bl_len]
  rw [e2, l2]
  have := h ((pre ++ [126]) ++ bl n) rest hr ps (k + 1) gs
  have l3 : ((pre ++ [126]) ++ bl n).length + T.length = pre.length + (126 :: (bl n ++ T)).length := by simp only [List.length_append, List.length_cons, List.length_nil]; omega
  rw [l3] at this
  exact this
theorem tt_im {p q : Fm} {T U : List Nat} (h : GT p T) (h2 : TT q U) (n m : Nat) : TT (.im p q) (T ++ (bl n ++ (45 :: 62 :: (bl m ++ U)))) := by
  obtain ⟨L, hL, hq, h2⟩ := h2
  refine ⟨p :: L, List.cons_ne_nil _ _, ?_, fun pre rest hr ps gs => ?_⟩
  · rw [← hq]
    cases L with
    | nil => exact absurd rfl hL
    | cons x r => rfl
  have e : pre ++ (T ++ (bl n ++ (45 :: 62 :: (bl m ++ U))) ++ rest) = pre ++ (T ++ (bl n ++ (45 :: 62 :: (bl m ++ (U ++ rest))))) := by simp only [List.append_assoc, List.cons_append]
  rw [e]
  refine (h pre _ (nxt_bl (nxt_sp rfl)) ps 0 gs).trans ?_
  have e2 : pre ++ (T ++ (bl n ++ (45 :: 62 :: (bl m ++ (U ++ rest))))) = (pre ++ T) ++ (bl n ++ (45 :: 62 :: (bl m ++ (U ++ rest)))) := by simp only [List.append_assoc]
  rw [e2, show pre.length + T.length = (pre ++ T).length by rw [List.length_append]]
  refine (run_bl n _ _ _ _).trans ?_
  have e3 : (pre ++ T) ++ (bl n ++ (45 :: 62 :: (bl m ++ (U ++ rest)))) = ((pre ++ T) ++ bl n) ++ 45 :: 62 :: (bl m ++ (U ++ rest)) := by simp only [List.append_assoc]
  have l3 : (pre ++ T).length + n = ((pre ++ T) ++ bl n).length := by rw [List.length_append (as := pre ++ T), bl_len]
  rw [e3, l3]
  refine .more step_ar ?_
  have e4 : ((pre ++ T) ++ bl n) ++ 45 :: 62 :: (bl m ++ (U ++ rest)) = (((pre ++ T) ++ bl n) ++ [45, 62]) ++ (bl m ++ (U ++ rest)) := by simp only [List.append_assoc]; rfl
  have l4 : ((pre ++ T) ++ bl n).length + 2 = (((pre ++ T) ++ bl n) ++ [45, 62]).length := by rw [List.length_append (as := (pre ++ T) ++ bl n)]; rfl
  rw [e4, l4]
  refine (run_bl m _ _ _ _).trans ?_
  have e5 : (((pre ++ T) ++ bl n) ++ [45, 62]) ++ (bl m ++ (U ++ rest)) = ((((pre ++ T) ++ bl n) ++ [45, 62]) ++ bl m) ++ (U ++ rest) := by simp only [List.append_assoc]
  have l5 : (((pre ++ T) ++ bl n) ++ [45, 62]).length + m = ((((pre ++ T) ++ bl n) ++ [45, 62]) ++ bl m).length := by rw [List.length_append (as := ((pre ++ T) ++ bl n) ++ [45, 62]), bl_len]
  rw [e5, l5]
  have := h2 ((((pre ++ T) ++ bl n) ++ [45, 62]) ++ bl m) rest hr (ps ++ [p]) gs
  have l6 : ((((pre ++ T) ++ bl n) ++ [45, 62]) ++ bl m).length + U.length = pre.length + (T ++ (bl n ++ (45 :: 62 :: (bl m ++ U)))).length := by simp only [List.length_append, List.length_cons, List.length_nil]; omega
  rw [l6, List.append_assoc ps] at this
  exact this
/-- the whole text -/
theorem read_tt {f : Fm} {T : List Nat} (h : TT f T) (n m : Nat) : ∃ g : Grp, grpF g.1 = f ∧ Run (bl n ++ (T ++ bl m)) ⟨0, [([], 0)], true⟩ ⟨(bl n ++ (T ++ bl m)).length, [g], false⟩ := by
  obtain ⟨L, hL, hf, h⟩ := h
  refine ⟨(L, 0), hf, ?_⟩
  have a := run_bl n [] (T ++ bl m) [([], 0)] true
  rw [List.nil_append] at a
  refine a.trans ?_
  have b := h (bl n) (bl m) (by have := nxt_bl (n := m) Nxt.nil; rwa [List.append_nil] at this) [] []
  rw [bl_len] at b
  rw [show ([] : List Nat).length + n = n by simp]
  refine b.trans ?_
  have c := run_bl m (bl n ++ T) [] [([] ++ L, 0)] false
  rw [List.append_nil, List.append_assoc, List.length_append, bl_len] at c
  rw [show (bl n ++ (T ++ bl m)).length = n + T.length + m by simp only [List.length_append, bl_len]; omega]
  exact c
end Cs

namespace Cs
open PySem PySem.Spec PyProof.Rows L2
/-! ### texts: z * n, z[::-1], z[c:c + 1] -/
theorem op_mulS {X : Cx} : OpR X (binaryOp .Mult) (fun x y H Q => ∃ (z : Str) (n : Int), x = .str z ∧ y = .int n ∧ MulOk z n ∧ Q (.str (Txt.mul z n)) H) := by
  intro pins s σ H x y v u Q I rx ry h
  obtain ⟨z, n, rfl, rfl, hok, q⟩ := h
  obtain ⟨t, rfl⟩ := rx
  obtain ⟨t', rfl⟩ := ry
  exact SB.mul hok fun t2 k => ⟨.str (Txt.mul z n), H, I.tok _, ⟨_, rfl⟩, q⟩
def tRevS (te : TE) : TE := fun σ H Q => te σ H fun x H1 => ∃ t, x = .str (SX.S t) ∧ t.length ≤ sizeLine ∧ Q (.str (SX.S t.reverse)) H1
theorem rev_picked (t : List Nat) : (Builtin.Str.strSliceIndices none none (-1) (SX.S t).length).filterMap ((SX.S t).cps[·]?) = t.reverse := by
  rw [PyProof.Rows.picked_rev, PySem.W.krv_range, List.filterMap_reverse]
  exact congrArg List.reverse (PySem.W.krv_all t.toArray)
theorem pe_revS {X : Cx} {e : Expr} {te : TE} {k : Nat} {p1 p2 p3 pos : Pos} (he : PE X e te) : PE X (.Subscript e (.Slice none none (some (.UnaryOp .USub (.Constant (.int 1) k p1) p2)) p3) pos) (tRevS te) := by
  refine ⟨fun pins s σ H Q I h => ?_⟩
  refine Subscript_ (thn (he.run pins s σ H _ I h) fun v s1 ⟨x, H1, I1, r1, q1⟩ => ?_)
  obtain ⟨t, ex, hz, q⟩ := q1
  subst ex
  obtain ⟨tk, rfl⟩ := r1
  have hst : PO X (some (.UnaryOp .USub (.Constant (.int 1) k p1) p2)) (tPart (tUn (rU fun i => .int (-i)) (tC (.int 1)))) := po_some (pe_un un_neg pe_int)
  refine wpAny_Slice (thn (po_none.run pins s1 σ H1 (fun o H2 => o = none ∧ H2 = H1) I1 ⟨rfl, rfl⟩) fun vl s2 ⟨l, H2, I2, pl, el, e2⟩ => ?_)
  subst el e2
  refine thn (po_none.run pins s2 σ H2 (fun o H3 => o = none ∧ H3 = H2) I2 ⟨rfl, rfl⟩) fun vu s3 ⟨u, H3, I3, pu, eu, e3⟩ => ?_
  subst eu e3
  refine thn (hst.run pins s3 σ H3 (fun o H4 => o = some (-1) ∧ H4 = H3) I3 ⟨1, rfl, -1, rfl, rfl, rfl⟩) fun vs s4 ⟨o, H4, I4, ps, eo, e4⟩ => ?_
  subst eo e4
  obtain ⟨l, rfl, hl⟩ := IsPart.raw pl
  obtain ⟨u, rfl, hu⟩ := IsPart.raw pu
  obtain ⟨st, rfl, hst⟩ := IsPart.raw ps
  cases l with
  | some _ => cases hl
  | none =>
  cases u with
  | some _ => cases hu
  | none =>
  cases st with
  | none => cases hst
  | some st =>
  obtain ⟨i, tu⟩ := st
  have hi : i = -1 := Option.some.inj hst
  subst hi
  have I5 : Inv X pins σ H4 { s4 with heap := s4.heap.push { cls := .type "slice", data := .fields #[partValue none, partValue none, partValue (some (-1, tu))] } } := I4.kept (t' := s4.toks) fun b ob q => Heap.get?_push_of_some _ q
  show wpAny (model X.prog X.w) X.A (subscriptTail e (.Slice none none (some (.UnaryOp .USub (.Constant (.int 1) k p1) p2)) p3) (.str (SX.S t) tk) (.ref s4.heap.objs.size)) (EP X pins σ Q) X.xe { s4 with heap := s4.heap.push { cls := .type "slice", data := .fields #[partValue none, partValue none, partValue (some (-1, tu))] } }
  refine tail_any (ops := [.str (SX.S t) tk, .ref s4.heap.objs.size]) (typeIs_str _ _ _) (F.slot_str_getitem.lookup) ?_ (by with_unfolding_all rfl)
  refine wpAny_getItem_str_slice (l := none) (u := none) (st := some (-1, tu)) ⟨_, Heap.get?_push_size _ rfl, rfl, rfl⟩ rfl ?_
  show Made.post (if ((-1 : Int) == 1 && (Builtin.Str.strSliceIndices none none (-1) (SX.S t).length).length == (SX.S t).length) = true then Made.val (.str (SX.S t) tk)
    else Made.str ⟨((Builtin.Str.strSliceIndices none none (-1) (SX.S t).length).filterMap ((SX.S t).cps[·]?)).toArray⟩) (EP X pins σ Q) _
  rw [if_neg (by simp), rev_picked]
  refine ⟨?_, .str _, H4, I5.tok _, ⟨_, rfl⟩, q⟩
  show t.reverse.toArray.size ≤ _
  rw [List.size_toArray, List.length_reverse]; exact hz
theorem cut_at (t : List Nat) (p : Nat) : cutS (SX.S t) (some (p : Int)) (some ((p : Int) + 1)) = SX.S ((t.drop p).take 1) := by
  have e2 : ((p : Int) + 1) = ((p + 1 : Nat) : Int) := rfl
  unfold cutS
  rw [e2, HT.sIx_nat, HT.sIx_nat, SX.S_len]
  refine congrArg SX.S ?_
  show List.take _ (t.drop (min p t.length)) = _
  by_cases h : p < t.length
  · rw [show min p t.length = p by omega, show min (p + 1) t.length - p = 1 by omega]
  · rw [List.drop_eq_nil_of_le (by omega), List.drop_eq_nil_of_le (by omega)]; simp

theorem ip_addS {X : Cx} : PIp X .Add (fun x y H Q => ∃ i j : Str, x = .str i ∧ y = .str j ∧ i.length + j.length ≤ sizeLine ∧ Q (.str (i ++ j)) H) := fun pins s σ H x y v u Q I rx ry h => iop_add_str pins s σ H x y v u Q I rx ry h
/-! ### drawings: plain law -/
abbrev Row := List Nat
abbrev Line := List Nat × Str
def und (a b : Nat) : List Row → List Row
  | [] => []
  | r :: rs => (a :: r) :: rs.map (b :: ·)
/-- a drawing of a formula, with longer strokes here and there -/
inductive LD : Fm → List Row → Prop
  | lt {n : Str} : LD (.lt n) [45 :: 32 :: n.cps.toList]
  | ng {p : Fm} {R : List Row} : LD p R → LD (.ng p) (und 42 32 R)
  | im {p q : Fm} {R T : List Row} : LD q R → LD p T → LD (.im p q) (und 43 124 R ++ und 96 32 T)
  | dash {f : Fm} {R : List Row} : LD f R → LD f (und 45 32 R)
def pfx (W : List Nat) (c : Nat) : Row := (List.range c).map fun j => if j ∈ W then 124 else 32
def plus (c : Nat) : List Nat → List Nat
  | [] => []
  | s :: r => if s = 43 then c :: plus (c + 1) r else plus (c + 1) r
/-- strokes of a row -/
def Sok (S : List Nat) : Prop := (∀ s ∈ S, s = 45 ∨ s = 42 ∨ s = 43) ∧ S.getLast? = some 45
/-- rows behind the first one, the waiting columns before and behind, the lines -/
inductive Rws : List Nat → List Row → List Nat → List Line → Prop
  | nil {W : List Nat} : Rws W [] W []
  | cons {W W' : List Nat} {c : Nat} {S : List Nat} {n : Str} {rs : List Row} {L : List Line} : (∀ j ∈ W, j < c) → Sok S → Nm n → Rws (W ++ plus (c + 1) S) rs W' L → Rws (W ++ [c]) ((pfx W c ++ 96 :: (S ++ 32 :: n.cps.toList)) :: rs) W' ((S, n) :: L)
/-- strokes from behind: what they make out of a formula and the lines that come next -/
inductive Pr : List Nat → Fm → List Line → Fm → List Line → Prop
  | nil {f : Fm} {L : List Line} : Pr [] f L f L
  | dash {R : List Nat} {f g : Fm} {L M : List Line} : Pr R f L g M → Pr (45 :: R) f L g M
  | star {R : List Nat} {f g : Fm} {L M : List Line} : Pr R (.ng f) L g M → Pr (42 :: R) f L g M
  | plus {R S : List Nat} {n : Str} {f g h : Fm} {L M N : List Line} : Pr S.reverse (.lt n) L h M → Pr R (.im h f) M g N → Pr (43 :: R) f ((S, n) :: L) g N
theorem Pr.app {R1 R2 : List Nat} {f f1 g : Fm} {L L1 M : List Line} (x : Pr R1 f L f1 L1) (y : Pr R2 f1 L1 g M) : Pr (R1 ++ R2) f L g M := by
  induction x with
  | nil => exact y
  | dash _ ih => exact .dash (ih y)
  | star _ ih => exact .star (ih y)
  | plus a _ _ ih => exact .plus a (ih y)
theorem Pr.len {R : List Nat} {f g : Fm} {L M : List Line} (x : Pr R f L g M) : M.length ≤ L.length := by
  induction x with
  | nil => exact Nat.le_refl _
  | dash _ ih => exact ih
  | star _ ih => exact ih
  | plus _ _ ih1 ih2 => rw [List.length_cons]; omega
theorem Rws.app {W W1 W2 : List Nat} {R1 R2 : List Row} {L1 L2 : List Line} (x : Rws W R1 W1 L1) (y : Rws W1 R2 W2 L2) : Rws W (R1 ++ R2) W2 (L1 ++ L2) := by
  induction x with
  | nil => exact y
  | cons a b c _ ih => exact .cons a b c (ih y)
theorem Rws.len {W W' : List Nat} {R : List Row} {L : List Line} (x : Rws W R W' L) : L.length = R.length := by
  induction x with
  | nil => rfl
  | cons a b c _ ih => rw [List.length_cons, List.length_cons, ih]
theorem pfx_succ (W : List Nat) (c : Nat) : pfx W (c + 1) = pfx W c ++ [if c ∈ W then 124 else 32] := by
  unfold pfx; rw [List.range_succ, List.map_append]; rfl
theorem pfx_snoc (W : List Nat) (c : Nat) : pfx (W ++ [c]) (c + 1) = pfx W c ++ [124] := by
  rw [pfx_succ, if_pos (List.mem_append_right _ (List.mem_singleton_self _))]
  refine congrArg (· ++ [124]) ?_
  unfold pfx
  refine List.map_congr_left fun j hj => ?_
  have := List.mem_range.mp hj
  have e : (j ∈ W ++ [c]) = (j ∈ W) := by
    rw [List.mem_append, List.mem_singleton, eq_iff_iff]
    exact ⟨fun h => h.elim id fun h => by omega, .inl⟩
  simp only [e]
theorem pfx_len (W : List Nat) (c : Nat) : (pfx W c).length = c := by unfold pfx; rw [List.length_map, List.length_range]
theorem plus_ge {c : Nat} : ∀ {S : List Nat} {j : Nat}, j ∈ plus c S → c ≤ j := by
  intro S
  induction S generalizing c with
  | nil => intro j h; cases h
  | cons s r ih =>
    intro j h
    unfold plus at h
    split at h
    · rcases List.mem_cons.mp h with rfl | h
      · exact Nat.le_refl _
      · exact Nat.le_of_succ_le (ih h)
    · exact Nat.le_of_succ_le (ih h)
theorem sok_cons {s : Nat} {S : List Nat} (h : s = 45 ∨ s = 42 ∨ s = 43) (x : Sok S) : Sok (s :: S) := by
  refine ⟨fun y hy => ?_, ?_⟩
  · rcases List.mem_cons.mp hy with rfl | hy
    · exact h
    · exact x.1 y hy
  · have h2 := x.2
    cases S with
    | nil => cases h2
    | cons a r => rw [List.getLast?_cons_cons]; exact h2
/-- the parts of a drawing: the first row, the others behind a place where W stands open, and what they are parsed to -/
structure Dec (f : Fm) (R : List Row) (S : List Nat) (n : Str) (Rs : List Row) (L : List Line) : Prop where
  e : R = (S ++ 32 :: n.cps.toList) :: Rs
  s : Sok S
  nn : Nm n
  r : ∀ (c : Nat) (W : List Nat), (∀ j ∈ W, j < c) → Rws (W ++ plus c S) (Rs.map (pfx W c ++ ·)) W L
  p : ∀ M : List Line, Pr S.reverse (.lt n) (L ++ M) f M
theorem map_pre (W : List Nat) (c b : Nat) (Rs : List Row) : (Rs.map (b :: ·)).map (pfx W c ++ ·) = Rs.map ((pfx W c ++ [b]) ++ ·) := by
  rw [List.map_map]
  refine List.map_congr_left fun r _ => ?_
  show pfx W c ++ (b :: r) = (pfx W c ++ [b]) ++ r
  rw [List.append_assoc]; rfl
theorem pfx_sp {W : List Nat} {c : Nat} (h : ∀ j ∈ W, j < c) : pfx W (c + 1) = pfx W c ++ [32] := by
  rw [pfx_succ, if_neg (fun m => Nat.lt_irrefl _ (h c m))]
theorem LD.dec {f : Fm} {R : List Row} (x : LD f R) (hn : Named f) : ∃ S n Rs L, Dec f R S n Rs L := by
  induction x with
  | @lt n => exact ⟨[45], n, [], [], rfl, ⟨fun s h => .inl (List.mem_singleton.mp h), rfl⟩, hn n (List.mem_singleton_self _), fun c W _ => by rw [show plus c [45] = [] from rfl, List.append_nil]; exact .nil, fun M => .dash .nil⟩
  | @ng p R x ih =>
    obtain ⟨S, n, Rs, L, D⟩ := ih hn
    refine ⟨42 :: S, n, Rs.map (32 :: ·), L, by rw [D.e]; rfl, sok_cons (.inr (.inl rfl)) D.s, D.nn, fun c W h => ?_, fun M => ?_⟩
    · rw [map_pre, ← pfx_sp h, show plus c (42 :: S) = plus (c + 1) S from rfl]
      exact D.r (c + 1) W fun j m => Nat.lt_succ_of_lt (h j m)
    · rw [List.reverse_cons]
      exact (D.p M).app (.star .nil)
  | @dash f R x ih =>
    obtain ⟨S, n, Rs, L, D⟩ := ih hn
    refine ⟨45 :: S, n, Rs.map (32 :: ·), L, by rw [D.e]; rfl, sok_cons (.inl rfl) D.s, D.nn, fun c W h => ?_, fun M => ?_⟩
    · rw [map_pre, ← pfx_sp h, show plus c (45 :: S) = plus (c + 1) S from rfl]
      exact D.r (c + 1) W fun j m => Nat.lt_succ_of_lt (h j m)
    · rw [List.reverse_cons]
      exact (D.p M).app (.dash .nil)
  | @im p q R T x y ih1 ih2 =>
    obtain ⟨S, n, Rs, L, D⟩ := ih1 hn.r
    obtain ⟨S2, n2, Rs2, L2, D2⟩ := ih2 hn.l
    refine ⟨43 :: S, n, Rs.map (124 :: ·) ++ (96 :: (S2 ++ 32 :: n2.cps.toList)) :: Rs2.map (32 :: ·), L ++ (S2, n2) :: L2, by rw [D.e, D2.e]; rfl, sok_cons (.inr (.inr rfl)) D.s, D.nn, fun c W h => ?_, fun M => ?_⟩
    · have h1 : ∀ j ∈ W ++ [c], j < c + 1 := fun j m => by
        rcases List.mem_append.mp m with m | m
        · exact Nat.lt_succ_of_lt (h j m)
        · rw [List.mem_singleton.mp m]; exact Nat.lt_succ_self _
      have a := D.r (c + 1) (W ++ [c]) h1
      have b := D2.r (c + 1) W fun j m => Nat.lt_succ_of_lt (h j m)
      rw [List.map_append, map_pre, ← pfx_snoc, List.map_cons, map_pre, ← pfx_sp h, show plus c (43 :: S) = c :: plus (c + 1) S from rfl, show W ++ c :: plus (c + 1) S = (W ++ [c]) ++ plus (c + 1) S by simp]
      exact a.app (.cons h D2.s D2.nn b)
    · rw [List.reverse_cons, List.append_assoc]
      exact (D.p ((S2, n2) :: L2 ++ M)).app (.plus (D2.p M) .nil)
end Cs
namespace Cs
open PySem PySem.Spec PyProof.Rows L2
/-! ### the reader of drawings as an object -/
def lineD (l : Line) : PyData := .tuple [.str (SX.S l.1), .str l.2]
def df (a wl ll : Addr) : List (Str × V) := [("rows", .ref a), ("waiting", .ref wl), ("lines", .ref ll)]
theorem kd1 : ¬ (("rows" : Str) = "waiting") := by decide +kernel
theorem kd2 : ¬ (("rows" : Str) = "lines") := by decide +kernel
theorem kd3 : ¬ (("waiting" : Str) = "lines") := by decide +kernel
section
variable (a wl ll : Addr)
theorem df_rows : (df a wl ll).lookup ("rows" : Str) = some (.ref a) := lk_eq
theorem df_waiting : (df a wl ll).lookup ("waiting" : Str) = some (.ref wl) := by unfold df; rw [lk_ne kd1, lk_eq]
theorem df_lines : (df a wl ll).lookup ("lines" : Str) = some (.ref ll) := by unfold df; rw [lk_ne kd2, lk_ne kd3, lk_eq]
theorem df_no {m : Str} (h1 : ¬ ("rows" : Str) = m) (h2 : ¬ ("waiting" : Str) = m) (h3 : ¬ ("lines" : Str) = m) : (df a wl ll).lookup m = none := by
  unfold df; rw [lk_ne h1, lk_ne h2, lk_ne h3]; rfl
theorem df_1 : putF "rows" (.ref a) [] = [(("rows" : Str), V.ref a)] := rfl
theorem df_2 : putF "waiting" (.ref wl) [(("rows" : Str), V.ref a)] = [(("rows" : Str), V.ref a), ("waiting", .ref wl)] := by simp only [putF, if_neg kd1]
theorem df_3 : putF "lines" (.ref ll) [(("rows" : Str), V.ref a), ("waiting", .ref wl)] = df a wl ll := by simp only [putF, if_neg kd2, if_neg kd3]; rfl
end
abbrev wts (W : List Nat) : List V := W.map fun (j : Nat) => V.int (j : Int)
structure DrX (K : PySem.W.Frag) (CR : Addr) (H0 H : Hp) (r : Addr) (rows : List Row) (W : List Nat) (L : List Line) (dx a wl ll : Addr) (ls : List V) : Prop where
  gr : Gr H0 H
  ob : H r = some (.ins CR dx (df a wl ll))
  ra : SqT K H a (rows.map fun t => V.str (SX.S t))
  wt : H wl = some (.lst (wts W))
  li : H ll = some (.lst ls)
  dl : DtAll K H ls (L.map lineD)
  ne : wl ≠ ll
  r0 : H0 r = none
  w0 : H0 wl = none
  l0 : H0 ll = none
def DrAt (K : PySem.W.Frag) (CR : Addr) (H0 H : Hp) (r : Addr) (rows : List Row) (W : List Nat) (L : List Line) : Prop := ∃ dx a wl ll ls, DrX K CR H0 H r rows W L dx a wl ll ls
section
variable {K : PySem.W.Frag} {CR : Addr} {H0 H H' : Hp} {r : Addr} {rows : List Row} {W : List Nat} {L : List Line} {dx a wl ll : Addr} {ls : List V}
theorem DrX.at (R : DrX K CR H0 H r rows W L dx a wl ll ls) : DrAt K CR H0 H r rows W L := ⟨dx, a, wl, ll, ls, R⟩
theorem DrX.grow (R : DrX K CR H0 H r rows W L dx a wl ll ls) (g : Gr H H') : DrX K CR H0 H' r rows W L dx a wl ll ls :=
  ⟨R.gr.trans g, gr_some g R.ob (fun ps e => nomatch e), g.sqT R.ra, g.lst R.wt (fun m => nomatch m), g.lst R.li (fun m => nomatch m), g.dts R.dl, R.ne, R.r0, R.w0, R.l0⟩
theorem DrX.setW (R : DrX K CR H0 H r rows W L dx a wl ll ls) (W' : List Nat) : DrX K CR H0 (upd H wl (.lst (wts W'))) r rows W' L dx a wl ll ls := by
  have g : Gx [wl] H (upd H wl (.lst (wts W'))) := Gx.set R.wt rfl
  have n1 : r ≠ wl := ne_of R.ob R.wt (fun e => nomatch e)
  exact ⟨R.gr.drop g (fun a m => by rw [List.mem_singleton.mp m]; exact .inr R.w0), by rw [upd_ne n1]; exact R.ob, g.sqT R.ra, upd_same, by rw [upd_ne R.ne.symm]; exact R.li, g.dts R.dl, R.ne, R.r0, R.w0, R.l0⟩
theorem DrX.setL (R : DrX K CR H0 H r rows W L dx a wl ll ls) {ls' : List V} {L' : List Line} (d : DtAll K H ls' (L'.map lineD)) : DrX K CR H0 (upd H ll (.lst ls')) r rows W L' dx a wl ll ls' := by
  have g : Gx [ll] H (upd H ll (.lst ls')) := Gx.set R.li rfl
  have n1 : r ≠ ll := ne_of R.ob R.li (fun e => nomatch e)
  exact ⟨R.gr.drop g (fun a m => by rw [List.mem_singleton.mp m]; exact .inr R.l0), by rw [upd_ne n1]; exact R.ob, g.sqT R.ra, by rw [upd_ne R.ne]; exact R.wt, upd_same, g.dts d, R.ne, R.r0, R.w0, R.l0⟩
end
theorem sig_lt {W : List Nat} {c j : Nat} {rest : List Nat} (h : j < c) : ((pfx W c ++ rest).drop j).take 1 = [if j ∈ W then 124 else 32] := by
  have e : (pfx W c ++ rest)[j]? = some (if j ∈ W then 124 else 32) := by
    rw [List.getElem?_append_left (by rw [pfx_len]; exact h)]
    unfold pfx
    rw [List.getElem?_map, List.getElem?_range h]; rfl
  obtain ⟨hl, e⟩ := List.getElem?_eq_some_iff.mp e
  rw [List.drop_eq_getElem_cons hl, e]; rfl
theorem sig_at {P rest : List Nat} {s : Nat} : ((P ++ s :: rest).drop P.length).take 1 = [s] := by
  rw [List.drop_left]; rfl
theorem inV_wts (W : List Nat) (j : Nat) : inV (.int (j : Int)) (wts W) = decide (j ∈ W) := by
  unfold inV wts
  rw [Bool.eq_iff_iff, List.any_eq_true, decide_eq_true_eq]
  constructor
  · rintro ⟨y, hy, e⟩
    obtain ⟨k, hk, rfl⟩ := List.mem_map.mp hy
    have : (k : Int) = (j : Int) := by simpa [eqV] using e
    have e2 : k = j := by omega
    rw [← e2]; exact hk
  · intro h
    exact ⟨_, List.mem_map.mpr ⟨j, h, rfl⟩, by simp [eqV]⟩
theorem beq_one (k c : Nat) : (SX.S [k] == (⟨#[c]⟩ : Str)) = decide (c = k) := by
  rw [Bool.eq_iff_iff, beq_iff_eq, decide_eq_true_eq]
  constructor
  · intro h
    exact (List.cons.inj (SX.S_inj (a := [k]) (b := [c]) h)).1.symm
  · rintro rfl; rfl
theorem z_st : ("*" : Str) = SX.S [42] := by decide +kernel
theorem z_pp : ("+" : Str) = SX.S [43] := by decide +kernel
theorem z_ba : ("`" : Str) = SX.S [96] := by decide +kernel
theorem z_pi : ("|" : Str) = SX.S [124] := by decide +kernel
theorem in_stk (c : Nat) : inV (.str ⟨#[c]⟩) [.str "-", .str "*", .str "+"] = decide (c = 45 ∨ c = 42 ∨ c = 43) := by
  rw [z_mi, z_st, z_pp]
  simp only [inV, List.any_cons, List.any_nil, eqV, beq_one, Bool.or_false]
  by_cases h1 : c = 45 <;> by_cases h2 : c = 42 <;> by_cases h3 : c = 43 <;> simp [h1, h2, h3]
theorem flat_wts (W : List Nat) : (wts W).all flatV = true := by
  rw [List.all_eq_true]
  intro x hx
  obtain ⟨j, _, rfl⟩ := List.mem_map.mp hx
  rfl
end Cs
namespace Cs
open PySem PySem.Spec PyProof.Rows L2
theorem plus_cons (c a : Nat) (A : List Nat) : plus c (a :: A) = if a = 43 then c :: plus (c + 1) A else plus (c + 1) A := rfl
theorem plus_app : ∀ (A B : List Nat) (c : Nat), plus c (A ++ B) = plus c A ++ plus (c + A.length) B
  | [], B, c => by simp [plus]
  | a :: A, B, c => by
    have ih := plus_app A B (c + 1)
    rw [List.cons_append, List.length_cons, show c + (A.length + 1) = c + 1 + A.length by omega, plus_cons, plus_cons, ih]
    split <;> rfl
theorem plus_len : ∀ (A : List Nat) (c : Nat), (plus c A).length ≤ A.length
  | [], c => Nat.le_refl _
  | a :: A, c => by
    have ih := plus_len A (c + 1)
    rw [plus_cons]
    split
    · rw [List.length_cons, List.length_cons]; omega
    · rw [List.length_cons]; omega
theorem sig_get {t : List Nat} {j x : Nat} (h : t[j]? = some x) : (t.drop j).take 1 = [x] := by
  obtain ⟨hl, e⟩ := List.getElem?_eq_some_iff.mp h
  rw [List.drop_eq_getElem_cons hl, e]; rfl
theorem sig_non {t : List Nat} {j : Nat} (h : t.length ≤ j) : (t.drop j).take 1 = [] := by rw [List.drop_eq_nil_of_le h]; rfl
theorem get_mid {A B C : List Nat} {k : Nat} {x : Nat} (h : B[k]? = some x) : (A ++ (B ++ C))[A.length + k]? = some x := by
  rw [List.getElem?_append_right (Nat.le_add_right _ _), Nat.add_sub_cancel_left]
  rw [List.getElem?_append_left (List.getElem?_eq_some_iff.mp h).1]; exact h
end Cs
namespace Cs
open PySem PySem.Spec PyProof.Rows L2
theorem for_str {t : List Nat} {g : TG} {tb : TS} {D : Ends} {σ : L2.St} {H : Hp} (Pv : Nat → L2.St → Hp → Prop) (h0 : Pv 0 σ H)
    (hs : ∀ i c σ H, t[i]? = some c → Pv i σ H → g (.str ⟨#[c]⟩) σ H fun σ2 H2 => tb { D with nx := Pv (i + 1), ct := Pv (i + 1), bk := D.nx } σ2 H2) (hd : ∀ σ H, Pv t.length σ H → D.nx σ H) :
    ∃ W : Nat → Nat → L2.St → Hp → Prop, (∃ m, W 0 m σ H) ∧ ∀ i m σ H, W i m σ H →
      ((Its (SX.S t)).stop i H ∧ D.nx σ H) ∨ ((Its (SX.S t)).go i H ∧ ∃ N : L2.St → Hp → Prop, (∀ σ' H', N σ' H' → ∃ m', m' < m ∧ W (i + 1) m' σ' H') ∧ ∀ x H', (Its (SX.S t)).yld i H x H' → g x σ H' fun σ2 H2 => tb { D with nx := N, ct := N, bk := D.nx } σ2 H2) := by
  have el : (SX.S t).cps.size = t.length := SX.S_len t
  refine ⟨fun i m σ H => m = t.length - i ∧ i ≤ t.length ∧ Pv i σ H, ⟨t.length, by simp, Nat.zero_le _, h0⟩, ?_⟩
  rintro i m σ H ⟨rfl, hi, p⟩
  by_cases hlt : i < t.length
  · refine .inr ⟨(by show i < (SX.S t).cps.size; rw [el]; exact hlt), Pv (i + 1), fun σ' H' p' => ⟨t.length - (i + 1), by omega, rfl, hlt, p'⟩, fun x H' y => ?_⟩
    obtain ⟨e, c, hc, y⟩ := y
    subst e y
    refine hs i c σ _ ?_ p
    rw [← hc]; exact (List.getElem?_toArray).symm
  · have e : i = t.length := by omega
    subst e
    exact .inl ⟨(by show (SX.S t).cps.size ≤ t.length; rw [el]; exact Nat.le_refl _), hd σ H p⟩
end Cs
namespace Cs
open PySem PySem.Spec PyProof.Rows L2
theorem Dm.none {CX : CXT} {P : Program} {w : World} {K : PySem.W.Frag} {mg : Str → Option Value} {base : Heap} {k : Nat} {C : Addr} {m qual : Str} {sp : Sp} {st : Stmt} {ps : List Str} (D : Dm K C m qual st ps) (no : ∀ vs H Q E, ¬ sp vs H Q E) : Ml CX P w K mg base k C m sp := by
  obtain ⟨f, fd, F, hm, hf, hb⟩ := D.ex
  exact ⟨f, fd, ps, ⟨fun vs H Q E h => absurd h (no vs H Q E), fun A outer s H args us vs Q E _ _ _ _ h => absurd h (no vs H Q E)⟩, ⟨hm, hf, F.kp⟩, hb⟩
end Cs
namespace Cs
open PySem PySem.Spec PyProof.Rows L2
theorem tag_if (f : Fm) : decide (V.str f.tag = V.str "if") = f.isIm := by
  cases f with
  | lt x => exact (by decide +kernel : decide (V.str "letter" = V.str "if") = false)
  | ng x => exact (by decide +kernel : decide (V.str "not" = V.str "if") = false)
  | im p q => exact (by decide +kernel : decide (V.str "if" = V.str "if") = true)
theorem tag_not (f : Fm) : decide (V.str f.tag = V.str "not") = match f with | .ng _ => true | _ => false := by
  cases f with
  | lt x => exact (by decide +kernel : decide (V.str "letter" = V.str "not") = false)
  | ng x => exact (by decide +kernel : decide (V.str "not" = V.str "not") = true)
  | im p q => exact (by decide +kernel : decide (V.str "if" = V.str "not") = false)
theorem tag_lt (f : Fm) : decide (V.str f.tag = V.str "letter") = f.isLt := by
  cases f with
  | lt x => exact (by decide +kernel : decide (V.str "letter" = V.str "letter") = true)
  | ng x => exact (by decide +kernel : decide (V.str "not" = V.str "letter") = false)
  | im p q => exact (by decide +kernel : decide (V.str "if" = V.str "letter") = false)
/-- the three shapes at once -/
def Fm.sh (K : PySem.W.Frag) (H : Hp) (x : V) (r : List V) : Fm → Prop
  | .lt n => x = .str n ∧ r = []
  | .ng p => FmV K H x p ∧ r = []
  | .im p q => ∃ y, r = [y] ∧ FmV K H x p ∧ FmV K H y q
theorem fm_sh {K : PySem.W.Frag} {H : Hp} {v : V} : ∀ {f : Fm}, FmV K H v f → ∃ a x r, v = .ref a ∧ SqT K H a (.str f.tag :: x :: r) ∧ Fm.sh K H x r f
  | .lt n, h => by obtain ⟨a, rfl, h1⟩ := fm_lt h; exact ⟨a, _, _, rfl, h1, rfl, rfl⟩
  | .ng p, h => by obtain ⟨a, x, rfl, h1, h2⟩ := fm_ng h; exact ⟨a, _, _, rfl, h1, h2, rfl⟩
  | .im p q, h => by obtain ⟨a, x, y, rfl, h1, h2, h3⟩ := fm_im h; exact ⟨a, _, _, rfl, h1, y, rfl, h2, h3⟩
end Cs

namespace Cs
open PySem PySem.Spec PyProof.Rows L2 GenW
open Sem (wp)
/-! ### generator expressions whose elements call: the run's own context -/
abbrev gcx (X : Cx) (Ag : Around) (s : Shared) (H : Hp) (scope : Scope) (cl : List (Str × Addr)) (C : Addr) (code : Value) (fp : List Addr) (pn : List (Addr × Obj)) : Cx :=
  { X with A := Ag, s_0 := s, H_0 := H, env := genEnv scope cl C code builtinsNs X.env, outer := X.stack, stack := genEnv scope cl C code builtinsNs X.env :: X.stack, ex := fp, fn := fun _ => false, pn := pn, xe := fun _ _ => False }
theorem over_gen {A : Around} {elt tg iter : Expr} {ifs : List Expr} {scope : Scope} {pos : Pos} {it acc : Value} {env : Env} : A.over (.compLoop (.GeneratorExp elt [⟨tg, iter, ifs, 0⟩] scope pos) 0 it acc env) [] = A.deeper env := by
  first
    | rfl
    | (obtain ⟨hd, d, fr, gs, u⟩ := A; simp [Around.over, Around.deeper, marksOver, frameCount, unitsOf, envsOf, guardsOf, pushEnvs, pushGuards, Code.envs, Code.env?, Code.isFrame, Code.guards, Code.isGuard, Code.weight, Code.frames, Code.isCreation, Code.isCaller, Code.cUnits])
theorem over_genS {A : Around} {elt tg iter : Expr} {ifs : List Expr} {scope : Scope} {pos : Pos} {it acc : Value} {env : Env} : A.over (.compStart (.GeneratorExp elt [⟨tg, iter, ifs, 0⟩] scope pos) 0 it acc env) [] = A.deeper env := by
  first
    | rfl
    | (obtain ⟨hd, d, fr, gs, u⟩ := A; simp [Around.over, Around.deeper, marksOver, frameCount, unitsOf, envsOf, guardsOf, pushEnvs, pushGuards, Code.envs, Code.env?, Code.isFrame, Code.guards, Code.isGuard, Code.weight, Code.frames, Code.isCreation, Code.isCaller, Code.cUnits])
section
variable {X : Cx} {pins : List (Addr × Obj)} {σ : L2.St} {H : Hp} {s s5 : Shared}
/-- the run begins; pn, pq: what stands as it is -/
theorem gen_start {Ag : Around} {scope : Scope} {own : List (Str × Nat)} {fp : List Addr} {code : Value} {pn pq : List (Addr × Obj)} {m0 : Str → Option Value} (I : Inv X pins σ H s) (ok : BlkOk X.N X.env.scope scope own) (hN : X.N.Nodup) (hcell : ∀ y ∈ scope.names, y.2 ≠ .cell)
    (hfp : ∀ b ∈ fp, FpOk X pins H b ∧ b < s.heap.objs.size) (hh : Ag.handled = none) (hfr : Ag.frames = some (genEnv scope (cloFrom X.env.cells scope.names []) s.heap.objs.size code builtinsNs X.env :: X.stack))
    (os : s5.os = s.os) (hb : AllBare s5.gens) (kp : ∀ b o, s.heap.get? b = some o → s5.heap.get? b = some o) (hn0 : s5.heap.Ns s.heap.objs.size m0)
    (hp : ∀ p ∈ pn ++ pq, s5.heap.get? p.1 = some p.2 ∧ H p.1 = none ∧ p.1 ≠ s.heap.objs.size ∧ p.1 ∉ frs X.stack ∧ ∀ v, p.2.data ≠ .cell v) :
    Inv (gcx X Ag s H scope (cloFrom X.env.cells scope.names []) s.heap.objs.size code fp pn) pq (wipe σ (own.map (·.2))) H s5 := by
  have hfree : ∀ y ∈ scope.names, y.2 = .free → ∃ c, X.env.cells.lookup y.1 = some c := fun y hy e => by
    rcases ok.free y hy e with k | k
    · exact I.ok.has _ (.inl k)
    · exact I.ok.has _ (.inr k)
  have cm : ∀ {y c}, (cloFrom X.env.cells scope.names []).lookup y = some c → X.env.cells.lookup y = some c ∧ c < s.heap.objs.size := fun {y c} e => by
    rcases cloFrom_mem (PySem.mem_of_lookup e) with hm | ⟨h1, rfl⟩
    · cases hm
    · obtain ⟨c, hc⟩ := hfree _ h1 rfl
      rw [hc]
      obtain ⟨w, z⟩ := I.cell _ _ hc
      exact ⟨rfl, z.lt⟩
  have look : ∀ {y}, scope.names.lookup y = some .free → ∃ c, (cloFrom X.env.cells scope.names []).lookup y = some c ∧ X.env.cells.lookup y = some c := fun {y} hl => by
    have hy : (y, NameKind.free) ∈ scope.names := PySem.mem_of_lookup hl
    obtain ⟨c', e'⟩ := mem_lookup (cloFrom_has (cells := X.env.cells) (acc := []) hy)
    exact ⟨c', e', (cm e').1⟩
  have nocell : ∀ {y}, scope.names.lookup y ≠ some .cell := fun {y} hl => hcell _ (PySem.mem_of_lookup hl) rfl
  refine ⟨⟨I.ok.mod, ok.kind, I.ok.glob, rfl, Nat.le_refl _, fun y z c e1 e2 => I.ok.inj y z c (cm e1).1 (cm e2).1, fun y hy => ?_, (fun y c z e => nomatch z), fun _ => hh, hfr, .inr ⟨rfl, rfl⟩, fun b hb => ⟨Nat.ne_of_lt (hfp b hb).2, fun y c e z => (hfp b hb).1.2.2.2.2.1 y c (cm e).1 z⟩, I.bs, Nat.le_trans I.ok.bsz I.sz, fun b o e hb => ?_, fun b hb z => ?_, I.stack, I.stkFree⟩,
    os, hb, Un.kept kp, ⟨m0, hn0, fun i y av e1 e2 e3 => ?_⟩, fun y c e => ?_, I.hok.fresh (Nat.le_refl _), fun y c e => I.freeC y c (cm e).1, hp, I.hok.kept kp, by rw [wipe_length]; exact I.len⟩
  · rcases hy with hy | hy
    · exact absurd hy nocell
    · obtain ⟨c, h1, _⟩ := look hy
      exact ⟨c, h1⟩
  · rcases (hfp b hb).1.2.2.2.1 with z | z
    · exact I.ok.noex b o e z
    · exact absurd (Nat.lt_of_lt_of_le (Heap.lt_size e) (Nat.le_trans I.ok.bsz z)) (Nat.lt_irrefl _)
  · rcases List.mem_cons.mp (I.stkSub b z) with z | z
    · exact (hfp b hb).1.2.1 z
    · exact (hfp b hb).1.2.2.1 z
  · obtain ⟨e2, hne⟩ := wipe_some e2
    have e3 : Vis scope y := e3
    have hfr : scope.names.lookup y = some .free := by
      rcases e3 with e3 | e3 | e3
      · exfalso
        rcases ok.own _ (PySem.mem_of_lookup e3) (.inl rfl) with e' | e'
        · obtain ⟨p, hp, hpy⟩ := List.mem_map.mp e'
          have e3 := ok.ix p hp
          have : p.1 = y := hpy
          rw [this] at e3
          exact hne (List.mem_map.mpr ⟨p, hp, nodup_ix hN e3 e1⟩)
        · exact e' (List.mem_of_getElem? e1)
      · exact absurd e3 nocell
      · exact e3
    obtain ⟨m, hn, hl⟩ := I.loc
    have hvis : Vis X.env.scope y := (ok.free _ (PySem.mem_of_lookup hfr) rfl).elim (fun k => .inr (.inl k)) (fun k => .inr (.inr k))
    obtain ⟨w, r, q⟩ := hl i y av e1 e2 hvis
    refine ⟨w, r, .inr ⟨.inr hfr, ?_⟩⟩
    obtain ⟨c, h1, h2⟩ := look hfr
    rcases q with ⟨k, _⟩ | ⟨_, c', e', z⟩
    · have k : X.env.scope.names.lookup y = some .local := k
      rcases ok.free _ (PySem.mem_of_lookup hfr) rfl with k' | k' <;> rw [show X.env.scope.names.lookup y = _ from k'] at k <;> cases k
    · rw [h2] at e'; cases e'
      exact ⟨c, h1, z.keeps kp⟩
  · obtain ⟨w, z⟩ := I.cell y c (cm e).1
    exact ⟨w, z.keeps kp⟩
/-- while it sleeps its consumer changes its own object S, and the generators' states -/
theorem inv_nap {s' : Shared} {S : Option Addr} (I : Inv X pins σ H s) (hA : ∀ b, S = some b → Apart X b ∧ H b = none ∧ ∀ p ∈ X.pn ++ pins, p.1 ≠ b) (os : s'.os = s.os) (hb : AllBare s'.gens)
    (kp : ∀ b o, S ≠ some b → s.heap.get? b = some o → s'.heap.get? b = some o) : Inv X pins σ H s' := by
  have nt : ∀ b u, H b = some u → S ≠ some b := fun b u q e => by rw [(hA b e).2.1] at q; cases q
  have nc : ∀ b, b ∉ S.toList → S ≠ some b := fun b hb e => hb (by rw [e]; exact List.mem_singleton_self _)
  refine I.call' (ch := S.toList) os ⟨fun b o e _ _ hc => kp b o (nc b hc) e, fun b o e _ _ hc => ⟨o.slots, kp b o (nc b hc) e⟩, fun _ _ _ n _ => n, fun b o e hc => ⟨o, kp b o (nc b hc) e⟩, fun _ _ q => q, fun _ _ _ q => q, fun b ps q => ⟨#[], by rw [q]; simp⟩⟩ (fun b u q => ?_) hb fun b hb => ?_
  · refine (I.hok b u q).stay (fun c v hc y => kp c v ?_ y) (fun _ y => y) fun _ _ y => y
    rcases hc with y | y
    · rw [y]; exact nt b u q
    · exact nt c _ y
  · have e : S = some b := by
      cases S with
      | none => cases hb
      | some c => rw [List.mem_singleton.mp hb]
    obtain ⟨h1, h2, h3⟩ := hA b e
    exact ⟨.inr h1.1, h1.2.1, h1.2.2, h3⟩
end
end Cs
namespace Cs
open PySem PySem.Spec PyProof.Rows L2 GenW
open Sem (wp)
/-! ### the run: its protocol and its loop -/
/-- what a consumer asks of an item: what is out so far, the item, the heap; c: what is to hold when it goes on -/
abbrev Eat := List V → V → Hp → Prop → Prop
def EatMono (E : Eat) : Prop := ∀ ys y H (c d : Prop), (c → d) → E ys y H c → E ys y H d
/-- the consumer's own object -/
def PinS (S : Option Addr) (CO : List V → Obj → Prop) (ys : List V) (p : List (Addr × Obj)) : Prop :=
  match S with
  | none => p = []
  | some b => ∃ o, CO ys o ∧ (∀ v, o.data ≠ .cell v) ∧ p = [(b, o)]
/-- what stands between two items, for those outside -/
structure Out (X : Cx) (S : Option Addr) (CO : List V → Obj → Prop) (a : Addr) (g : Nat) (s5 : Shared) (H5 : Hp) (fp : List Addr) (ys : List V) (H : Hp) (s : Shared) : Prop where
  os : s.os = s5.os
  bare : AllBare s.gens
  lim : s.heap.NoLimit
  gen : s.heap.IsGen a g
  un : Un (frs X.stack) fp H5 H s5.heap s.heap
  hok : HOk X.prog X.w H s.heap
  own : ∀ b, S = some b → H b = none ∧ ∃ o, s.heap.get? b = some o ∧ CO ys o
structure Nap (S : Option Addr) (CO : List V → Obj → Prop) (ys : List V) (s s' : Shared) : Prop where
  os : s'.os = s.os
  bare : AllBare s'.gens
  keep : ∀ b o, S ≠ some b → s.heap.get? b = some o → s'.heap.get? b = some o
  own : ∀ b, S = some b → ∃ o, s'.heap.get? b = some o ∧ CO ys o ∧ ∀ v, o.data ≠ .cell v
def YG (X : Cx) (S : Option Addr) (CO : List V → Obj → Prop) (E : Eat) (a : Addr) (g : Nat) (s5 : Shared) (H5 : Hp) (fp : List Addr) : Protocol := fun _ s₀ v s kap =>
  (∀ b o, S = some b → s₀.heap.get? b = some o → s.heap.get? b = some o) ∧ ∃ ys y H, RelV y v ∧ Out X S CO a g s5 H5 fp ys H s ∧ E ys y H (∀ s', Nap S CO (ys ++ [y]) s s' → kap (.send .none) s')
def RG (X : Cx) (S : Option Addr) (CO : List V → Obj → Prop) (Qe : List V → Hp → Prop) (a : Addr) (g : Nat) (s5 : Shared) (H5 : Hp) (fp : List Addr) : GenEnd := fun _ s₀ r s =>
  ((r = .ok (.ret .none) ∨ r = .ok .next) ∧ (∀ b o, S = some b → s₀.heap.get? b = some o → s.heap.get? b = some o) ∧ ∃ ys H, Out X S CO a g s5 H5 fp ys H s ∧ Qe ys H) ∨ ∃ e, r = .error e ∧ False
theorem out_of {X : Cx} {Ag : Around} {s5 : Shared} {H5 H : Hp} {scope : Scope} {cl : List (Str × Addr)} {C a : Addr} {g : Nat} {code : Value} {fp : List Addr} {go : Obj} {S : Option Addr} {CO : List V → Obj → Prop} {ys : List V} {p ip : List (Addr × Obj)} {σ : L2.St} {s : Shared}
    (hgen : ∀ h : Heap, h.get? a = some go → h.IsGen a g) (hp : PinS S CO ys p) (I : Inv (gcx X Ag s5 H5 scope cl C code fp [(a, go)]) (p ++ ip) σ H s) : Out X S CO a g s5 H5 fp ys H s := by
  refine ⟨I.os, I.bare, I.nolimit, hgen _ (I.pin (a, go) (List.mem_append_left _ (List.mem_singleton_self _))).1, I.base, I.hok, fun b e => ?_⟩
  subst e
  obtain ⟨o, h1, _, rfl⟩ := hp
  obtain ⟨z1, z2, _⟩ := I.pin (b, o) (List.mem_append_right _ (List.mem_append_left _ (List.mem_singleton_self _)))
  exact ⟨z2, o, z1, h1⟩
/-- the reading's turn -/
def GTurn (E : Eat) (Qe : List V → Hp → Prop) (J : It) (g : TG) (tt : L2.TT) (te : TE) (σ0 : L2.St) (vs : List Nat) (W : Nat → Nat → List V → Hp → Prop) : Prop :=
  ∀ i m ys H, W i m ys H → (J.stop i H ∧ Qe ys H) ∨ (J.go i H ∧ ∃ Nx : List V → Hp → Prop, (∀ ys' H', Nx ys' H' → ∃ m', m' < m ∧ W (i + 1) m' ys' H') ∧
    ∀ x H', J.yld i H x H' → g x σ0 H' fun σ2 H2 => wipe σ2 vs = σ0 ∧ tt σ2 H2 fun b H3 => if b = true then te σ2 H3 fun y H4 => E ys y H4 (Nx (ys ++ [y]) H4) else Nx ys H3)
theorem compTurn_genT (elt target iter : Expr) (ifs : List Expr) (scope : Scope) (pos : Pos) (it acc : Value) (env : Env) :
    compTurn (.GeneratorExp elt [⟨target, iter, ifs, 0⟩] scope pos) 0 it acc env = (do
      standAt iter.pos
      match ← pyNext it with
      | none => pure (.done .next)
      | some v =>
        letOwnedTupleGo target it v
        assign target env v
        let mut ok := true
        for c in ifs do
          if ok then ok ← isTrue c env (eval c env)
        if ok then
          (do let v ← eval elt env; standAt elt.pos; let _ ← yieldOut env v)
        again (.compLoop (.GeneratorExp elt [⟨target, iter, ifs, 0⟩] scope pos) 0 it acc env)) := by rfl
section
variable {X : Cx} {Aw : Around} {s5 : Shared} {H5 : Hp} {scope : Scope} {cl : List (Str × Addr)} {C a : Addr} {g : Nat} {code : Value} {fp : List Addr} {go : Obj} {S : Option Addr} {CO : List V → Obj → Prop} {E : Eat} {Qe : List V → Hp → Prop}
variable {elt tg iter : Expr} {ifs : List Expr} {pos : Pos} {J : It} {it : Addr} {tn : Nat → Heap → Prop} {tgr : TG} {tt : L2.TT} {te : TE} {σ0 : L2.St} {vs : List Nat} {W : Nat → Nat → List V → Hp → Prop}
theorem gen_loop (hE : EatMono E) (hc : X.calm = true) (hco : scope.isCoroutine = false) (hgen : ∀ h : Heap, h.get? a = some go → h.IsGen a g) (T : Turn X.prog X.w X.K tg J fp it tn) (hσ : wipe σ0 vs = σ0)
    (hS : ∀ b, S = some b → Apart (gcx X (Aw.deeper (genEnv scope cl C code builtinsNs X.env)) s5 H5 scope cl C code fp [(a, go)]) b ∧ a ≠ b ∧ b ∉ fp)
    (pg : PG (gcx X (Aw.deeper (genEnv scope cl C code builtinsNs X.env)) s5 H5 scope cl C code fp [(a, go)]) tg tgr) (pt : PTs (gcx X (Aw.deeper (genEnv scope cl C code builtinsNs X.env)) s5 H5 scope cl C code fp [(a, go)]) ifs tt)
    (pe : PE (gcx X (Aw.deeper (genEnv scope cl C code builtinsNs X.env)) s5 H5 scope cl C code fp [(a, go)]) elt te) (hfpa : a ∉ fp) (turn : GTurn E Qe J tgr tt te σ0 vs W) :
    ∀ (m n i : Nat) (ys : List V) (s₀ s : Shared) (H : Hp) (p : List (Addr × Obj)), m < n → W i m ys H → PinS S CO ys p → (∀ q ∈ p, s₀.heap.get? q.1 = some q.2) → Inv (gcx X (Aw.deeper (genEnv scope cl C code builtinsNs X.env)) s5 H5 scope cl C code fp [(a, go)]) p σ0 H s → tn i s.heap → (∀ b ∈ fp, H b = none) →
      Seg (model X.prog X.w) Aw (RG X S CO Qe a g s5 H5 fp) (YG X S CO E a g s5 H5 fp) n s₀ (.compLoop (.GeneratorExp elt [⟨tg, iter, ifs, 0⟩] scope pos) 0 (.ref it) .none (genEnv scope cl C code builtinsNs X.env))
        ((model X.prog X.w).den (.compLoop (.GeneratorExp elt [⟨tg, iter, ifs, 0⟩] scope pos) 0 (.ref it) .none (genEnv scope cl C code builtinsNs X.env))) [] s := by
  generalize hY : gcx X (Aw.deeper (genEnv scope cl C code builtinsNs X.env)) s5 H5 scope cl C code fp [(a, go)] = Y at pg pt pe hS ⊢
  have eA : Y.A = Aw.deeper (genEnv scope cl C code builtinsNs X.env) := by rw [← hY]
  have eE : Y.env = genEnv scope cl C code builtinsNs X.env := by rw [← hY]
  have eP : Y.prog = X.prog := by rw [← hY]
  have eW : Y.w = X.w := by rw [← hY]
  have eK : Y.K = X.K := by rw [← hY]
  have eX : Y.ex = fp := by rw [← hY]
  have eN : Y.pn = [(a, go)] := by rw [← hY]
  have xf : ∀ e s', ¬ Y.xe e s' := by rw [← hY]; exact fun _ _ z => z
  intro m
  induction m using Nat.strongRecOn with
  | ind m ih =>
    intro n i ys s₀ s H p hmn w hp hq0 I st nf
    have stat : ∀ {pp : List (Addr × Obj)} {σ' : L2.St} {H' : Hp} {s' : Shared}, Inv Y pp σ' H' s' → (∀ b ∈ fp, H' b = none) → (∀ q ∈ pp, q.1 ∉ fp) → ∀ b ∈ fp, FpOk Y pp H' b := fun {pp σ' H' s'} I' hn hq b hb => by
      have hb' : b ∈ Y.ex := by rw [eX]; exact hb
      refine ⟨hn b hb, (I'.ok.exf b hb').1, I'.ok.exfs b hb', .inl hb', fun x c e => (I'.ok.exf b hb').2 x c e, fun q hqm e => ?_⟩
      rcases List.mem_append.mp hqm with z | z
      · rw [eN] at z
        rw [List.mem_singleton.mp z] at e
        exact hfpa (by rw [show a = b from e]; exact hb)
      · exact hq q z (by rw [e]; exact hb)
    have same : ∀ {s' : Shared}, (∀ q ∈ p, s'.heap.get? q.1 = some q.2) → ∀ b o, S = some b → s₀.heap.get? b = some o → s'.heap.get? b = some o := fun {s'} h b o e e0 => by
      subst e
      obtain ⟨o1, _, _, rfl⟩ := hp
      have h1 := hq0 (b, o1) (List.mem_singleton_self _)
      have h2 := h (b, o1) (List.mem_singleton_self _)
      rw [e0] at h1
      cases h1
      exact h2
    have hpf : ∀ q ∈ p, q.1 ∉ fp := fun q hq => by
      cases S with
      | none => rw [show p = [] from hp] at hq; cases hq
      | some b =>
        obtain ⟨o, _, _, rfl⟩ := hp
        rw [List.mem_singleton.mp hq]
        exact (hS b rfl).2.2
    show Seg _ Aw _ _ _ s₀ _ ((compTurn (.GeneratorExp elt [⟨tg, iter, ifs, 0⟩] scope pos) 0 (.ref it) .none (genEnv scope cl C code builtinsNs X.env)).onRaise (leaving (genEnv scope cl C code builtinsNs X.env))) [] s
    rw [compTurn_genT, Sem.onRaise_eq_wrap]
    refine seg_bind_wrap (wpAny_standAt ?_)
    rcases turn i m ys H w with ⟨stop, qq⟩ | ⟨go', Nx, hNx, step⟩
    · have td := T.done Y eP eW eK (by rw [← hY]; exact hc) i p s _ H (fun _ _ => False) I (stat I nf hpf) st stop
      rw [eA] at td
      refine seg_bind_wrap ?_
      rw [over_gen]
      refine thnF td fun r s6 ⟨hr, I6⟩ => ?_
      subst hr
      refine seg_end (.ok .next) (.inl ⟨.inr rfl, same fun q hq => (I6.pin q (List.mem_append_right _ hq)).1, ys, H, ?_, qq⟩)
      rw [← hY] at I6
      exact out_of (ip := []) hgen hp (by rw [List.append_nil]; exact I6)
    · have ti := T.item Y eP eW eK (by rw [← hY]; exact hc) i p s _ H (fun _ _ => False) I (stat I nf hpf) st go'
      rw [eA] at ti
      refine seg_bind_wrap ?_
      rw [over_gen]
      refine thnF ti fun r s6 ⟨u, hr, h6⟩ => ?_
      subst hr
      refine seg_bind_wrap ?_
      rw [over_gen]
      refine thnF h6 fun _ s7 ⟨x, H7, I7, r7, y7, st7, n7⟩ => ?_
      have I7' := I7.pinned (stat I7 n7 hpf) (T.obj _ _ st7)
      have pgr := pg.run _ s7 _ H7 x u _ I7' r7 (step x H7 y7)
      rw [eP, eW, eA, eE] at pgr
      refine seg_bind_wrap ?_
      rw [over_gen]
      refine wpAny_mono pgr (fun _ s8 ⟨σ8, H8, I8, hw8, q8⟩ => ?_) fun e s' z => absurd z (xf e s')
      have ptr := pt.run _ s8 σ8 H8 _ I8 q8
      rw [eP, eW, eA, eE] at ptr
      refine seg_bind_wrap ?_
      rw [over_gen]
      refine wpAny_mono ptr (fun b s9 ⟨H9, I9, q9⟩ => ?_) fun e s' z => absurd z (xf e s')
      -- a turn's end
      have fin : ∀ {ys' : List V} {s' : Shared} {H' : Hp} {p' : List (Addr × Obj)}, PinS S CO ys' p' → Inv Y (p' ++ pinsAt fp s7.heap) σ8 H' s' → Nx ys' H' → ∀ (n' : Nat) (s₀ : Shared), (∀ q ∈ p', s₀.heap.get? q.1 = some q.2) → (∀ m', m' < m → m' < n') →
          Seg (model X.prog X.w) Aw (RG X S CO Qe a g s5 H5 fp) (YG X S CO E a g s5 H5 fp) n' s₀ (.compLoop (.GeneratorExp elt [⟨tg, iter, ifs, 0⟩] scope pos) 0 (.ref it) .none (genEnv scope cl C code builtinsNs X.env))
            (.pure (.again (.compLoop (.GeneratorExp elt [⟨tg, iter, ifs, 0⟩] scope pos) 0 (.ref it) .none (genEnv scope cl C code builtinsNs X.env)))) [] s' := fun {ys' s' H' p'} hp' I' nx n' s₀ hq' hle => by
        obtain ⟨m', hm, w'⟩ := hNx ys' H' nx
        have pin' : ∀ b ∈ fp, ∀ o, s7.heap.get? b = some o → s'.heap.get? b = some o ∧ H' b = none := fun b hb o e =>
          let z := I'.pin (b, o) (List.mem_append_right _ (List.mem_append_right _ (mem_pinsAt hb e)))
          ⟨z.1, z.2.1⟩
        have hl : σ0.length = σ8.length := by rw [← hw8, wipe_length]
        refine seg_again rfl (ih m' hm n' (i + 1) ys' s₀ s' H' p' (hle m' hm) w' hp' hq' (I'.unpinned.weak hl fun j v e => ?_) (T.keep _ _ _ st7 fun b hb o e => (pin' b hb o e).1) fun b hb => ?_)
        · rw [← hw8] at e
          exact (wipe_some e).1
        · obtain ⟨o, e, _⟩ := T.obj _ _ st7 b hb
          exact (pin' b hb o e).2
      cases b with
      | false =>
        simp only [Bool.false_eq_true, if_false] at q9 ⊢
        exact fin hp I9 q9 n s₀ hq0 fun m' hm => by omega
      | true =>
        simp only [if_true] at q9 ⊢
        have hy : ∀ v, yieldOut (genEnv scope cl C code builtinsNs X.env) v = yieldValue v := fun v => by
          have : (genEnv scope cl C code builtinsNs X.env).scope.isCoroutine = false := hco
          simp only [yieldOut, this, Bool.false_eq_true, if_false]
        have per := pe.run _ s9 σ8 H9 _ I9 q9
        rw [eP, eW, eA, eE] at per
        simp only [hy]
        rw [Sem.bind_eq_wrap', Sem.bind_eq_wrap', Sem.wrap_wrap, Sem.wrap_wrap]
        refine seg_wrap ?_
        rw [over_gen]
        refine wpAny_mono per (fun z s10 ⟨y, H10, I10, r10, q10⟩ => ?_) fun e s' z => absurd z (xf e s')
        obtain ⟨k, rfl⟩ : ∃ k, n = k + 1 := ⟨n - 1, by omega⟩
        have I0 : Inv Y (pinsAt fp s7.heap) σ8 H10 s10 := I10.pins_of fun q hq => I10.pin q (List.mem_append_right _ (List.mem_append_right _ hq))
        refine seg_at (seg_yield rfl rfl rfl ⟨same fun q hq => (I10.pin q (List.mem_append_right _ (List.mem_append_left _ hq))).1, ys, y, H10, r10, ?_, hE _ _ _ _ _ (fun nx s' nap => ?_) q10⟩)
        · rw [← hY] at I10
          exact out_of hgen hp I10
        have hA : ∀ b, S = some b → Apart Y b ∧ H10 b = none ∧ ∀ q ∈ Y.pn ++ pinsAt fp s7.heap, q.1 ≠ b := fun b e => by
          obtain ⟨h1, h2, h3⟩ := hS b e
          refine ⟨h1, ?_, fun q hq e2 => ?_⟩
          · subst e
            obtain ⟨o, _, _, rfl⟩ := hp
            exact (I10.pin (b, o) (List.mem_append_right _ (List.mem_append_left _ (List.mem_singleton_self _)))).2.1
          · rcases List.mem_append.mp hq with z | z
            · rw [eN] at z
              rw [List.mem_singleton.mp z] at e2
              exact h2 e2
            · have := (of_pinsAt z).1
              rw [e2] at this
              exact h3 this
        have I1 : Inv Y (pinsAt fp s7.heap) σ8 H10 s' := inv_nap I0 hA nap.os nap.bare nap.keep
        obtain ⟨p', hp', I2⟩ : ∃ p', PinS S CO (ys ++ [y]) p' ∧ Inv Y (p' ++ pinsAt fp s7.heap) σ8 H10 s' := by
          cases hSe : S with
          | none => exact ⟨[], rfl, I1⟩
          | some b =>
            obtain ⟨o', ho, hco', hnc⟩ := nap.own b hSe
            obtain ⟨_, z2, _⟩ := hA b hSe
            have hp2 := hp
            rw [hSe] at hp2
            obtain ⟨o, _, _, rfl⟩ := hp2
            obtain ⟨_, y2, y3, y4, _⟩ := I10.pin (b, o) (List.mem_append_right _ (List.mem_append_left _ (List.mem_singleton_self _)))
            refine ⟨[(b, o')], ⟨o', hco', hnc, rfl⟩, I1.pins_of fun q hq => ?_⟩
            rcases List.mem_append.mp hq with z | z
            · rw [List.mem_singleton.mp z]
              exact ⟨ho, z2, y3, y4, hnc⟩
            · exact I1.pin q (List.mem_append_right _ z)
        exact fin hp' I2 nx k s' (fun q hq => (I2.pin q (List.mem_append_right _ (List.mem_append_left _ hq))).1) fun m' hm => by omega
end
end Cs
namespace Cs
open PySem PySem.Spec PyProof.Rows L2 GenW
open Sem (wp)
theorem gen_first {P : Program} {w : World} {Aw : Around} {elt tg iter : Expr} {ifs : List Expr} {scope : Scope} {pos : Pos} {it : Addr} {cenv : Env} {R : GenEnd} {Y : Protocol} {n : Nat} {s₀ s : Shared} {K : PySem.W.Frag} {J : It} {fp : List Addr} {tn : Nat → Heap → Prop}
    (T : Turn P w K tg J fp it tn) (st : tn 0 s.heap)
    (loop : Seg (model P w) Aw R Y n s₀ (.compLoop (.GeneratorExp elt [⟨tg, iter, ifs, 0⟩] scope pos) 0 (.ref it) .none cenv) ((model P w).den (.compLoop (.GeneratorExp elt [⟨tg, iter, ifs, 0⟩] scope pos) 0 (.ref it) .none cenv)) [] s) :
    Seg (model P w) Aw R Y n s₀ (.compStart (.GeneratorExp elt [⟨tg, iter, ifs, 0⟩] scope pos) 0 (.ref it) .none cenv) ((model P w).den (.compStart (.GeneratorExp elt [⟨tg, iter, ifs, 0⟩] scope pos) 0 (.ref it) .none cenv)) [] s := by
  show Seg _ Aw _ _ _ s₀ _ ((compStart (.GeneratorExp elt [⟨tg, iter, ifs, 0⟩] scope pos) 0 (.ref it) .none cenv).onRaise (leaving cenv)) [] s
  unfold compStart
  rw [Sem.onRaise_eq_wrap]
  show Seg _ Aw _ _ _ s₀ _ ((ask >>= _).wrap _ _ _ _) [] s
  refine seg_bind_wrap (wpAny_askSetting ?_)
  split
  · exact seg_again rfl loop
  · first
      | exact seg_bind_wrap (wpAny_rule (seg_bind_wrap (wpAny_standAt (seg_bind_wrap (T.self _ 0 s _ _ st (seg_again rfl loop))))))
      | (refine seg_bind_wrap (wpAny_rule ?_); show Seg _ Aw _ _ _ s₀ _ ((standAt iter.pos >>= _).wrap _ _ _ _) [] s; exact seg_bind_wrap (wpAny_standAt (seg_bind_wrap (T.self _ 0 s _ _ st (seg_again rfl loop)))))
/-- a generator that has not begun -/
def GReady (X : Cx) (pins : List (Addr × Obj)) (σ : L2.St) (k : Nat) (E : Eat) (Qe : List V → Hp → Prop) (u : Value) (s5 : Shared) : Prop :=
  ∃ (a : Addr) (g : Nat) (c : Code) (H5 : Hp) (fp : List Addr) (sA : Shared) (n : Nat), u = .ref a ∧ Inv X pins σ H5 sA ∧ (∀ b ∈ fp, FpOk X pins H5 b) ∧ sA.heap.objs.size ≤ a ∧ a < s5.heap.objs.size ∧ s5.heap.IsGen a g ∧ s5.gens[g]? = some (.fresh c) ∧ s5.os = sA.os ∧ AllBare s5.gens ∧
    s5.heap.NoLimit ∧ (∀ b o, sA.heap.get? b = some o → s5.heap.get? b = some o) ∧
    ∀ (Aw : Around) (S : Option Addr) (CO : List V → Obj → Prop) (s2 : Shared), Room (k + 1) Aw → Aw.frames = some X.stack → (∀ b, S = some b → s5.heap.objs.size ≤ b ∧ ∃ o, s2.heap.get? b = some o ∧ CO [] o ∧ ∀ v, o.data ≠ .cell v) →
      (∀ b o, s5.heap.get? b = some o → s2.heap.get? b = some o) → s2.os = s5.os → AllBare s2.gens →
      Seg (model X.prog X.w) Aw (RG X S CO Qe a g sA H5 fp) (YG X S CO E a g sA H5 fp) n s2 c ((model X.prog X.w).den c) [] s2
/-- the reading: P the running def's table -/
def tGen (P : Addr) (E : Eat) (Qe : List V → Hp → Prop) (wi : TI) (g : TG) (tt : L2.TT) (te : TE) (vs : List Nat) (σ : L2.St) (H : Hp) : Prop :=
  wi σ H fun J H1 => GxR.TabG H1 P ∧ ∀ H2, GxR.Tabbed P H1 H2 → ∃ W, (∃ m, W 0 m [] H2) ∧ GTurn E Qe J g tt te (wipe σ vs) vs W
theorem wipe_wipe (σ : L2.St) : ∀ vs : List Nat, wipe (wipe σ vs) vs = wipe σ vs := by
  intro vs
  refine List.ext_getElem? fun i => ?_
  have key : ∀ (vs : List Nat) (τ : L2.St), (wipe τ vs)[i]? = if i ∈ vs then (τ[i]?).map fun _ => none else τ[i]? := by
    intro vs
    induction vs with
    | nil => intro τ; simp [wipe]
    | cons v vs ih =>
      intro τ
      unfold wipe
      rw [List.getElem?_set]
      by_cases h : v = i
      · subst h
        simp only [if_true, List.mem_cons, true_or, wipe_length]
        by_cases hl : v < τ.length
        · rw [if_pos hl, List.getElem?_eq_getElem hl]; rfl
        · rw [if_neg hl, List.getElem?_eq_none (by omega)]; rfl
      · rw [if_neg h, ih]
        have : (i ∈ v :: vs) = (i ∈ vs) := by
          rw [List.mem_cons, eq_iff_iff]
          exact ⟨fun z => z.elim (fun e => absurd e.symm h) id, .inr⟩
        simp only [this]
  rw [key, key]
  by_cases h : i ∈ vs
  · simp only [if_pos h, Option.map_map]; rfl
  · simp only [if_neg h]
/-- a generator expression's own scope -/
structure GSc (N : List Str) (sc scope : Scope) (own : List (Str × Nat)) : Prop where
  ok : BlkOk N sc scope own
  co : scope.isCoroutine = false
  cell : ∀ y ∈ scope.names, y.2 ≠ .cell
  dot : scope.names.lookup (".0" : Str) = some NameKind.local
section
variable {X : Cx} {pins : List (Addr × Obj)} {σ : L2.St} {H : Hp} {s : Shared}
theorem gen_make {c P : Addr} {elt tg iter : Expr} {ifs : List Expr} {scope : Scope} {own : List (Str × Nat)} {pos : Pos} {wi : TI} {g : TG} {tt : L2.TT} {te : TE} {k : Nat} {E : Eat} {Qe : List V → Hp → Prop}
    (hr : Room k X.A) (hc : X.calm = true) (hN : X.N.Nodup) (TB : GxR.TabB X.base X.mg c P) (hcode : X.env.code = .ref c) (S : GSc X.N X.env.scope scope own) (hi : PI X tg iter wi)
    (hg : ∀ (Ag : Around) (s : Shared) (H : Hp) (cl : List (Str × Addr)) (C : Addr) (code : Value) (fp : List Addr) (pn : List (Addr × Obj)), Room k Ag → PG (gcx X Ag s H scope cl C code fp pn) tg g)
    (ht : ∀ (Ag : Around) (s : Shared) (H : Hp) (cl : List (Str × Addr)) (C : Addr) (code : Value) (fp : List Addr) (pn : List (Addr × Obj)), Room k Ag → PTs (gcx X Ag s H scope cl C code fp pn) ifs tt)
    (he : ∀ (Ag : Around) (s : Shared) (H : Hp) (cl : List (Str × Addr)) (C : Addr) (code : Value) (fp : List Addr) (pn : List (Addr × Obj)), Room k Ag → PE (gcx X Ag s H scope cl C code fp pn) elt te)
    (hs : ∀ v, genFold iter X.env v = pure v) (hE : EatMono E) (I : Inv X pins σ H s) (h : tGen P E Qe wi g tt te (own.map (·.2)) σ H) :
    wpAny (model X.prog X.w) X.A (eval (.GeneratorExp elt [⟨tg, iter, ifs, 0⟩] scope pos) X.env) (GReady X pins σ k E Qe) X.xe s := by
  have hfree : ∀ y ∈ scope.names, y.2 = .free → ∃ c, X.env.cells.lookup y.1 = some c := fun y hy e => by
    rcases S.ok.free y hy e with k | k
    · exact I.ok.has _ (.inl k)
    · exact I.ok.has _ (.inr k)
  refine wpAny_GeneratorExp_make S.co (closure_ok hfree) S.cell S.dot S.ok.kind (by have := hr.dp; omega) ?_ hs
  refine thn (hi.run pins s σ H _ I h) fun xv s1 hx => thn hx fun itv s2 h2 => ?_
  obtain ⟨it, fp, tn, J, H2, e, I2, T, st2, f2, ⟨ps, hP, htr⟩, q⟩ := h2
  subst e
  have hPs : s2.heap.get? P = some { cls := .none, data := .fields ps } := I2.hok P _ hP
  have cd : PySem.W.CodeHd s2.heap c P := TB.code.keeps fun b u e => I2.bk b u e
  refine ⟨I2.nolimit, ?_⟩
  have cont : ∀ (code : Value) (h3 : Heap) (tk : Nat) (ps' : Array Value), Heap.ExtBut P s2.heap h3 → s2.heap.objs.size ≤ h3.objs.size → h3.get? P = some { cls := .none, data := .fields ps' } → (∃ more, ps' = ps ++ more) → TriplesOk ps'.toList →
      wpAny (model X.prog X.w) X.A (builtinsFor X.env.globals X.env.builtins) (fun bi s₄ => ∀ h', h'.Ns s₄.heap.objs.size (fun y => if y = ".0" then some (.ref it) else none) → Heap.SameBut s₄.heap.objs.size (s₄.heap.push { cls := .type "frame", data := .dict #[] }) h' →
          GReady X pins σ k E Qe (.ref h'.objs.size) { s₄ with
            gens := s₄.gens.push (.fresh (.compStart (.GeneratorExp elt [⟨tg, iter, ifs, 0⟩] scope pos) 0 (.ref it) .none (genEnv scope (cloFrom X.env.cells scope.names []) s₄.heap.objs.size code bi X.env))),
            toks := s₄.toks + 1 + 1 + 1,
            heap := h'.push { cls := .type "generator", data := .fields #[.int s₄.gens.size 0, .str "<genexpr>" (s₄.toks + 1), .str (X.env.qual ++ "<genexpr>") (s₄.toks + 1 + 1)] } }) X.xe { s2 with heap := h3, toks := tk } := by
    intro code h3 tk ps' hx hsz hP3 hmore ht3
    obtain ⟨bm, ob, e1, e2, e3, e4, e5, e6, e7, e8⟩ := TB.bm
    have keep3 : ∀ b u, b ≠ P → s2.heap.get? b = some u → h3.get? b = some u := fun b u hb e => hx b u hb e
    refine wpAny_builtinsFor (m := X.mg) (by rw [I2.ok.glob]; exact (I2.mod.glob.keeps I2.bk).extBut hx TB.gP) e1 e2 (keep3 _ _ e4 (I2.bk _ _ e5)) e6 e7 e8 ?_
    obtain ⟨more, rfl⟩ := hmore
    have J4 := GxR.inv_tab (more := more) (h' := h3) (g' := s2.gens) (d' := s2.drawn) (t' := tk) I2 hP keep3 hP3 I2.bare
    generalize hs4 : ({ s2 with heap := h3, toks := tk } : Shared) = s4
    have J4 : Inv X pins σ (upd H2 P (.tbl (ps ++ more))) s4 := by rw [← hs4]; exact J4
    have h34 : s4.heap = h3 := by rw [← hs4]
    obtain ⟨W, ⟨m0, w0⟩, turn⟩ := q (upd H2 P (.tbl (ps ++ more))) ⟨⟨ps ++ more, upd_same, ht3⟩, fun b hb => upd_ne hb⟩
    have nP : ∀ b ∈ fp, b ≠ P := fun b hb z => by
      have := (f2 b hb).1
      rw [z, hP] at this; cases this
    have f4 : ∀ b ∈ fp, FpOk X pins (upd H2 P (.tbl (ps ++ more))) b ∧ b < s4.heap.objs.size := fun b hb => by
      refine ⟨⟨by rw [upd_ne (nP b hb)]; exact (f2 b hb).1, (f2 b hb).2⟩, ?_⟩
      obtain ⟨o, e, _⟩ := T.obj _ _ st2 b hb
      rw [h34]
      exact Nat.lt_of_lt_of_le (Heap.lt_size e) hsz
    have st4 : tn 0 s4.heap := T.keep _ _ _ st2 fun b hb o e => by rw [h34]; exact keep3 b o (nP b hb) e
    intro h' hn' hs'
    have hsz' : h'.objs.size = s4.heap.objs.size + 1 := by rw [hs'.1, Heap.size_push]
    have keep' : ∀ b o, s4.heap.get? b = some o → h'.get? b = some o := fun b o e => hs'.extBut b o (Nat.ne_of_lt (Heap.lt_size e)) (Heap.get?_push_of_some _ e)
    generalize hgo : ({ cls := .type "generator", data := .fields #[.int s4.gens.size 0, .str "<genexpr>" (s4.toks + 1), .str (X.env.qual ++ "<genexpr>") (s4.toks + 1 + 1)] } : Obj) = go
    have hgen : ∀ h : Heap, h.get? h'.objs.size = some go → h.IsGen h'.objs.size s4.gens.size := fun h e => ⟨go, _, _, e, by rw [← hgo], by rw [← hgo], by rw [← hgo]⟩
    have hpush : (h'.push go).get? h'.objs.size = some go := by
      rw [← hgo]; exact Heap.get?_push_size _ rfl
    have keep5 : ∀ b o, s4.heap.get? b = some o → (h'.push go).get? b = some o := fun b o e => Heap.get?_push_of_some _ (keep' b o e)
    refine ⟨h'.objs.size, s4.gens.size, _, _, fp, s4, m0 + 1, rfl, J4, fun b hb => (f4 b hb).1, by omega, (by show _ < (h'.push go).objs.size; rw [Heap.size_push]; exact Nat.lt_succ_self _), hgen _ hpush, Array.getElem?_push_size .., rfl, AllBare.push J4.bare rfl, J4.nolimit.keeps keep5, keep5, ?_⟩
    intro Aw Sx CO s6 hrw hfr hSx hk6 hos hba
    have hk46 : ∀ b o, s4.heap.get? b = some o → s6.heap.get? b = some o := fun b o e => hk6 b o (keep5 b o e)
    have young : ∀ b, s4.heap.objs.size ≤ b → (upd H2 P (.tbl (ps ++ more))) b = none ∧ b ∉ frs X.stack ∧ b ∉ fp := fun b hb => by
      refine ⟨J4.hok.fresh hb, fun hm => ?_, fun hm => absurd (Nat.lt_of_lt_of_le (f4 b hm).2 hb) (Nat.lt_irrefl _)⟩
      obtain ⟨_, o, ho, _⟩ := J4.stack.mem hm
      exact absurd (Nat.lt_of_lt_of_le (Heap.lt_size ho) hb) (Nat.lt_irrefl _)
    have hsz5 : (h'.push go).objs.size = s4.heap.objs.size + 2 := by rw [Heap.size_push, hsz']
    have hSa : ∀ b, Sx = some b → s4.heap.objs.size + 2 ≤ b ∧ ∃ o, s6.heap.get? b = some o ∧ CO [] o ∧ ∀ v, o.data ≠ .cell v := fun b e => by
      obtain ⟨h1, h2⟩ := hSx b e
      have h1 : (h'.push go).objs.size ≤ b := h1
      exact ⟨by omega, h2⟩
    obtain ⟨pq, hpq, hpin⟩ : ∃ pq, PinS Sx CO [] pq ∧ ∀ p ∈ pq, s6.heap.get? p.1 = some p.2 ∧ s4.heap.objs.size + 2 ≤ p.1 ∧ ∀ v, p.2.data ≠ .cell v := by
      cases hSe : Sx with
      | none => exact ⟨[], rfl, fun p hp => nomatch hp⟩
      | some b =>
        obtain ⟨h1, o, h2, h3, h4⟩ := hSa b hSe
        exact ⟨[(b, o)], ⟨o, h3, h4, rfl⟩, fun p hp => by rw [List.mem_singleton.mp hp]; exact ⟨h2, h1, h4⟩⟩
    have gdat : ∀ v, go.data ≠ .cell v := fun v e => by rw [← hgo] at e; cases e
    have I6 := gen_start (Ag := Aw.deeper (genEnv scope (cloFrom X.env.cells scope.names []) s4.heap.objs.size code builtinsNs X.env)) (s5 := s6) (code := code) (pn := [(h'.objs.size, go)]) (pq := pq) J4 S.ok hN S.cell f4 hrw.hd (Around.frames_deeper hfr) hos hba hk46
      ((hn'.push go).keeps hk6) (fun p hp => by
        rcases List.mem_append.mp hp with z | z
        · rw [List.mem_singleton.mp z]
          obtain ⟨y1, y2, _⟩ := young h'.objs.size (by omega)
          exact ⟨hk6 _ _ hpush, y1, (by show h'.objs.size ≠ _; omega), y2, gdat⟩
        · obtain ⟨y0, y9, y8⟩ := hpin p z
          obtain ⟨y1, y2, _⟩ := young p.1 (by omega)
          exact ⟨y0, y1, Nat.ne_of_gt (Nat.lt_of_lt_of_le (Nat.lt_add_of_pos_right (by decide)) y9), y2, y8⟩)
    refine gen_first T (T.keep _ _ _ st4 fun b hb o e => hk46 b o e) ?_
    refine gen_loop hE hc S.co hgen T (wipe_wipe σ _) (fun b e => ?_) (hg _ _ _ _ _ _ _ _ (hrw.deeper _)) (ht _ _ _ _ _ _ _ _ (hrw.deeper _)) (he _ _ _ _ _ _ _ _ (hrw.deeper _)) (young h'.objs.size (by omega)).2.2 turn m0 (m0 + 1) 0 [] s6 s6 _ pq (Nat.lt_succ_self _) w0 hpq (fun q hq => (hpin q hq).1) I6
      (T.keep _ _ _ st4 fun b hb o e => hk46 b o e) (fun b hb => (f4 b hb).1.1)
    obtain ⟨h1, _⟩ := hSa b e
    obtain ⟨y1, y2, y3⟩ := young b (by omega)
    refine ⟨⟨(by show s4.heap.objs.size ≤ b; omega), Nat.ne_of_gt (Nat.lt_of_lt_of_le (Nat.lt_add_of_pos_right (by decide)) h1), fun x c e2 z => ?_⟩, Nat.ne_of_lt (Nat.lt_of_lt_of_le (by rw [hsz']; exact Nat.lt_succ_self _) h1), y3⟩
    have e2 : (cloFrom X.env.cells scope.names []).lookup x = some c := e2
    rcases cloFrom_mem (PySem.mem_of_lookup e2) with hm | ⟨h9, rfl⟩
    · cases hm
    · obtain ⟨c', hc'⟩ := hfree _ h9 rfl
      rw [hc'] at z
      obtain ⟨w, zc⟩ := J4.cell _ _ hc'
      have hlt : c' < s4.heap.objs.size := zc.lt
      have z : c' = b := z
      rw [z] at hlt
      exact absurd (Nat.lt_of_lt_of_le hlt (Nat.le_trans (Nat.le_add_right _ 2) h1)) (Nat.lt_irrefl _)
  cases hf : codeAmong pos ps.toList with
  | none =>
    refine wpAny_genexprCodeX hcode (cd.code hPs htr) (cd.tab hPs) hf fun c' h' tk hx hge hlt hco' _ htab' _ => ?_
    obtain ⟨o1, vs, f1, tf, fl, tg, inF, tx, tt, op, _, _, _, _, _, _, _, _, _, htr', _⟩ := hco'
    exact cont _ h' tk _ hx (Nat.le_trans hge (Nat.le_of_lt hlt)) htab'.2 ⟨_, rfl⟩ htr'
  | some cv =>
    refine wpAny_genexprCode_hit hcode (cd.code hPs htr) hf ?_
    exact cont cv s2.heap s2.toks ps (Heap.ExtBut.refl _ _) (Nat.le_refl _) hPs ⟨#[], by simp⟩ htr
end
end Cs

namespace Cs
open PySem PySem.Spec PyProof.Rows L2 GenW
open Sem (wp)
section
variable {X : Cx} {pins : List (Addr × Obj)} {σ : L2.St} {H H5 : Hp} {s s' sA : Shared} {S : Option Addr} {CO : List V → Obj → Prop} {a : Addr} {g : Nat} {fp : List Addr} {ys : List V} {E : Eat} {Qe : List V → Hp → Prop}
theorem Out.back (O : Out X S CO a g sA H5 fp ys H s) (I : Inv X pins σ H5 sA) (hf : ∀ b ∈ fp, FpOk X pins H5 b) : Inv X pins σ H s :=
  I.call' (ch := fp) O.os O.un O.hok O.bare fun b hb => ⟨(hf b hb).2.2.2.1, (hf b hb).2.1, (hf b hb).2.2.2.2.1, (hf b hb).2.2.2.2.2⟩
theorem Out.kept (O : Out X S CO a g sA H5 fp ys H s) (os : s'.os = s.os) (hb : AllBare s'.gens) (kp : ∀ b o, s.heap.get? b = some o → s'.heap.get? b = some o) : Out X S CO a g sA H5 fp ys H s' :=
  ⟨os.trans O.os, hb, O.lim.keeps kp, O.gen.keeps kp, O.un.trans (Un.kept kp), O.hok.kept kp, fun b e => let ⟨h1, o, h2, h3⟩ := O.own b e; ⟨h1, o, kp _ _ h2, h3⟩⟩
/-- one step of the consumer: the next item -/
theorem next_gen {A : Around} {gs : GenState} {n : Nat} {Ex : Value → Shared → Prop} {Q : Option Value → Shared → Prop} (hh : A.handled = none) (hl : s.heap.NoLimit) (hd : A.depth < recursionLimit) (hg : s.heap.IsGen a g) (hgs : s.gens[g]? = some gs)
    (hgo : gs.Goes (model X.prog X.w) A.in1 (RG X S CO Qe a g sA H5 fp) (YG X S CO E a g sA H5 fp) n (.send .none) (s.setGen g .running))
    (hitem : ∀ v y ys H s1 gs', gs'.bare = true → g < s1.gens.size → RelV y v → Out X S CO a g sA H5 fp ys H s1 → (∀ b o, S = some b → s.heap.get? b = some o → s1.heap.get? b = some o) →
      E ys y H (∃ m, n = m + 1 ∧ ∀ s', Nap S CO (ys ++ [y]) (s1.setGen g gs') s' → s'.gens[g]? = some gs' → s'.gens[g]? = some gs' ∧ gs'.Goes (model X.prog X.w) A.in1 (RG X S CO Qe a g sA H5 fp) (YG X S CO E a g sA H5 fp) m (.send .none) (s'.setGen g .running)) →
      (s1.setGen g gs').gens[g]? = some gs' → Q (some v) (s1.setGen g gs'))
    (hend : ∀ ys H s1, Out X S CO a g sA H5 fp ys H s1 → (∀ b o, S = some b → s.heap.get? b = some o → s1.heap.get? b = some o) → Qe ys H → Q none s1) (hE : EatMono E) (hnone : n = 0 → ∀ ys y v H s1 (C : Prop), RelV y v → E ys y H C → AllBare s1.gens → (∀ b, S = some b → ∃ o, s1.heap.get? b = some o ∧ CO ys o) → ∃ s', Nap S CO (ys ++ [y]) s1 s') :
    wpAny (model X.prog X.w) A (pyNext (.ref a)) Q Ex s := by
  have hgl : g < s.gens.size := (Array.getElem?_eq_some_iff.mp hgs).1
  refine wpAny_gsz (n := g + 1) hgl (next_genG hh hl hd hg hgs hgo (fun v s1 gs' hb hv => ?_) (fun s1 hp h' hk => ?_) fun e s1 he => he.elim)
  · intro hsz
    have hsz1 : g < s1.gens.size := by
      have q : (s1.setGen g gs').gens.size = s1.gens.size := setGen_size _ _ _
      have hsz' : g + 1 ≤ (s1.setGen g gs').gens.size := hsz
      omega
    obtain ⟨hsm, ys, y, H, r, O, e⟩ := hv
    refine hitem v y ys H s1 gs' hb hsz1 r O hsm (hE _ _ _ _ _ (fun c => ?_) e) (setGen_at hsz1)
    cases n with
    | zero =>
      obtain ⟨s', nap⟩ := hnone rfl ys y v H s1 _ r e O.bare (fun b e => (O.own b e).2)
      exact (c s' nap).elim
    | succ m =>
      refine ⟨m, rfl, fun s' nap hg' => ⟨hg', c _ ⟨nap.os, allBare_setGen nap.bare rfl, nap.keep, nap.own⟩⟩⟩
  · intro hsz
    obtain ⟨hsm, ys, H, O, q⟩ := hp
    exact hend ys H _ (O.kept rfl (allBare_setGen O.bare rfl) hk) (fun b o e e2 => hk _ _ (hsm b o e e2)) q
/-- all, any of bools: F behind the first false (true) one -/
abbrev eatB (stop : Bool) (F : Hp → Prop) : Eat := fun _ y H c => ∃ b, y = .bl b ∧ if b = stop then F H else c
theorem eatB_mono (stop : Bool) (F : Hp → Prop) : EatMono (eatB stop F) := fun ys y H c d cd ⟨b, e, h⟩ => ⟨b, e, by
  by_cases hb : b = stop
  · rw [if_pos hb] at h ⊢; exact h
  · rw [if_neg hb] at h ⊢; exact cd h⟩
theorem nap0 {CO : List V → Obj → Prop} (hb : AllBare s.gens) : Nap none CO ys s s := ⟨rfl, hb, fun _ _ _ e => e, fun _ e => nomatch e⟩
theorem all_loopG {A : Around} {Ft : Hp → Prop} {R : Result → Shared → Prop} {CO : List V → Obj → Prop} (hh : A.handled = none) (hd : A.depth < recursionLimit)
    (hend : ∀ ys H s1, Out X none CO a g sA H5 fp ys H s1 → Qe ys H → R (.ok (.ret (.bool true))) s1) (hstop : ∀ ys H s1, Out X none CO a g sA H5 fp ys H s1 → Ft H → R (.ok (.ret (.bool false))) s1) :
    ∀ (n : Nat) (s : Shared) (gs : GenState), s.heap.NoLimit → s.heap.IsGen a g → s.gens[g]? = some gs → gs.Goes (model X.prog X.w) A.in1.in1 (RG X none CO Qe a g sA H5 fp) (YG X none CO (eatB false Ft) a g sA H5 fp) n (.send .none) (s.setGen g .running) →
      codeAny (model X.prog X.w) A (.builtin "all.loop" ⟨[.ref a], []⟩) R s := by
  intro n
  induction n with
  | zero =>
    intro s gs hl hg hgs hgo
    refine codeAny_builtin PySem.F.entry_all_loop ?_
    rw [Around.under_plainId PySem.F.plain_all_loop _]
    show wpAny _ A.in1 (pyNext (.ref a) >>= _) _ _ s
    refine wpAny_bind (next_gen (A := A.in1) hh hl hd hg hgs hgo (fun v y ys H s1 gs' hb hsz r O hsm e hg' => ?_) (fun ys H s1 O hsm q => ?_) (eatB_mono _ _) fun _ ys y v _ s1 _ _ _ hb _ => ⟨s1, nap0 hb⟩)
    · obtain ⟨b, rfl, e⟩ := e
      cases r
      refine wpAny_bind (wpAny_holding (wpAny_truthy_bool (wpAny_bind (wpAny_letGo ?_))))
      cases b with
      | true => obtain ⟨m, h, _⟩ := e; cases h
      | false => exact wpAny_bind (wpAny_rule (wpAny_pure (hstop ys H _ (O.kept rfl (allBare_setGen O.bare hb) fun _ _ z => z) e)))
    · exact wpAny_bind (wpAny_rule (wpAny_pure (hend ys H s1 O q)))
  | succ n ih =>
    intro s gs hl hg hgs hgo
    refine codeAny_builtin PySem.F.entry_all_loop ?_
    rw [Around.under_plainId PySem.F.plain_all_loop _]
    show wpAny _ A.in1 (pyNext (.ref a) >>= _) _ _ s
    refine wpAny_bind (next_gen (A := A.in1) hh hl hd hg hgs hgo (fun v y ys H s1 gs' hb hsz r O hsm e hg' => ?_) (fun ys H s1 O hsm q => ?_) (eatB_mono _ _) fun h => nomatch h)
    · obtain ⟨b, rfl, e⟩ := e
      cases r
      refine wpAny_bind (wpAny_holding (wpAny_truthy_bool (wpAny_bind (wpAny_letGo ?_))))
      have O' := O.kept (s' := s1.setGen g gs') rfl (allBare_setGen O.bare hb) fun _ _ z => z
      cases b with
      | true =>
        obtain ⟨m, h, e⟩ := e
        cases h
        exact wpAny_pure ⟨plainId_quiet PySem.F.plain_all_loop _, ih _ gs' O'.lim O'.gen hg' (e _ (nap0 O'.bare) hg').2⟩
      | false => exact wpAny_bind (wpAny_rule (wpAny_pure (hstop ys H _ O' e)))
    · exact wpAny_bind (wpAny_rule (wpAny_pure (hend ys H s1 O q)))
theorem any_loopG {A : Around} {Ft : Hp → Prop} {R : Result → Shared → Prop} {CO : List V → Obj → Prop} (hh : A.handled = none) (hd : A.depth < recursionLimit)
    (hend : ∀ ys H s1, Out X none CO a g sA H5 fp ys H s1 → Qe ys H → R (.ok (.ret (.bool false))) s1) (hstop : ∀ ys H s1, Out X none CO a g sA H5 fp ys H s1 → Ft H → R (.ok (.ret (.bool true))) s1) :
    ∀ (n : Nat) (s : Shared) (gs : GenState), s.heap.NoLimit → s.heap.IsGen a g → s.gens[g]? = some gs → gs.Goes (model X.prog X.w) A.in1.in1 (RG X none CO Qe a g sA H5 fp) (YG X none CO (eatB true Ft) a g sA H5 fp) n (.send .none) (s.setGen g .running) →
      codeAny (model X.prog X.w) A (.builtin "any.loop" ⟨[.ref a], []⟩) R s := by
  intro n
  induction n with
  | zero =>
    intro s gs hl hg hgs hgo
    refine codeAny_builtin PySem.F.entry_any_loop ?_
    rw [Around.under_plainId PySem.F.plain_any_loop _]
    show wpAny _ A.in1 (pyNext (.ref a) >>= _) _ _ s
    refine wpAny_bind (next_gen (A := A.in1) hh hl hd hg hgs hgo (fun v y ys H s1 gs' hb hsz r O hsm e hg' => ?_) (fun ys H s1 O hsm q => ?_) (eatB_mono _ _) fun _ ys y v _ s1 _ _ _ hb _ => ⟨s1, nap0 hb⟩)
    · obtain ⟨b, rfl, e⟩ := e
      cases r
      refine wpAny_bind (wpAny_holding (wpAny_truthy_bool (wpAny_bind (wpAny_letGo ?_))))
      cases b with
      | false => obtain ⟨m, h, _⟩ := e; cases h
      | true => exact wpAny_bind (wpAny_rule (wpAny_pure (hstop ys H _ (O.kept rfl (allBare_setGen O.bare hb) fun _ _ z => z) e)))
    · exact wpAny_bind (wpAny_rule (wpAny_pure (hend ys H s1 O q)))
  | succ n ih =>
    intro s gs hl hg hgs hgo
    refine codeAny_builtin PySem.F.entry_any_loop ?_
    rw [Around.under_plainId PySem.F.plain_any_loop _]
    show wpAny _ A.in1 (pyNext (.ref a) >>= _) _ _ s
    refine wpAny_bind (next_gen (A := A.in1) hh hl hd hg hgs hgo (fun v y ys H s1 gs' hb hsz r O hsm e hg' => ?_) (fun ys H s1 O hsm q => ?_) (eatB_mono _ _) fun h => nomatch h)
    · obtain ⟨b, rfl, e⟩ := e
      cases r
      refine wpAny_bind (wpAny_holding (wpAny_truthy_bool (wpAny_bind (wpAny_letGo ?_))))
      have O' := O.kept (s' := s1.setGen g gs') rfl (allBare_setGen O.bare hb) fun _ _ z => z
      cases b with
      | false =>
        obtain ⟨m, h, e⟩ := e
        cases h
        exact wpAny_pure ⟨plainId_quiet PySem.F.plain_any_loop _, ih _ gs' O'.lim O'.gen hg' (e _ (nap0 O'.bare) hg').2⟩
      | true => exact wpAny_bind (wpAny_rule (wpAny_pure (hstop ys H _ O' e)))
    · exact wpAny_bind (wpAny_rule (wpAny_pure (hend ys H s1 O q)))
/-- all(elt for tg in iter if ..), bools handed out -/
def tAllG (P : Addr) (wi : TI) (g : TG) (tt : L2.TT) (te : TE) (vs : List Nat) : TE := fun σ H Q => tGen P (eatB false fun H' => Q (.bl false) H') (fun _ H' => Q (.bl true) H') wi g tt te vs σ H
theorem pe_allG {c P : Addr} {elt tg iter : Expr} {ifs : List Expr} {scope : Scope} {own : List (Str × Nat)} {p pos gpos : Pos} {wi : TI} {g : TG} {tt : L2.TT} {te : TE} {k : Nat}
    (hr : Room (k + 3) X.A) (hgl : Gl X "all") (hm : X.mg "all" = none) (hc : X.calm = true) (hN : X.N.Nodup) (TB : GxR.TabB X.base X.mg c P) (hcode : X.env.code = .ref c) (S : GSc X.N X.env.scope scope own) (hi : PI X tg iter wi)
    (hg : ∀ (Ag : Around) (s : Shared) (H : Hp) (cl : List (Str × Addr)) (C : Addr) (code : Value) (fp : List Addr) (pn : List (Addr × Obj)), Room k Ag → PG (gcx X Ag s H scope cl C code fp pn) tg g)
    (ht : ∀ (Ag : Around) (s : Shared) (H : Hp) (cl : List (Str × Addr)) (C : Addr) (code : Value) (fp : List Addr) (pn : List (Addr × Obj)), Room k Ag → PTs (gcx X Ag s H scope cl C code fp pn) ifs tt)
    (he : ∀ (Ag : Around) (s : Shared) (H : Hp) (cl : List (Str × Addr)) (C : Addr) (code : Value) (fp : List Addr) (pn : List (Addr × Obj)), Room k Ag → PE (gcx X Ag s H scope cl C code fp pn) elt te)
    (hs : ∀ v, genFold iter X.env v = pure v := by intro _; rfl) (hb : bootBuiltins "all" = some (.builtin "all") := by decide +kernel)
    (hst : starEach [.GeneratorExp elt [⟨tg, iter, ifs, 0⟩] scope gpos] X.env = (false, eval (.GeneratorExp elt [⟨tg, iter, ifs, 0⟩] scope gpos) X.env) :: starEach [] X.env := by rfl) :
    PE X (.Call (.Name "all" p) [.GeneratorExp elt [⟨tg, iter, ifs, 0⟩] scope gpos] [] pos) (tAllG P wi g tt te (own.map (·.2))) := by
  refine ⟨fun pins s σ H Q I h => ?_⟩
  refine wpAny_Call_Name_kw (ld_blt I hgl hm hb ?_)
  refine PyProof.Rows.callWith_builtin1 ?_ hst (by rfl)
  rw [hst]
  show wpAny _ _ (spliced ((false, eval (.GeneratorExp elt [⟨tg, iter, ifs, 0⟩] scope gpos) X.env) :: backTo pos (starEach [] X.env))) _ _ s
  refine Calls.spliced_cons (thn (gen_make (hr.mono (by omega)) hc hN TB hcode S hi hg ht he hs (eatB_mono _ _) I h) fun u s5 hG => ?_)
  refine Calls.spliced_nil ?_
  obtain ⟨a, gg, cc, H5, fp, sA, n, rfl, I5, hf, h1, h2, h3, h4, h5, h6, h7, h8, wake⟩ := hG
  refine call_function_tree PySem.F.kind_all PySem.F.plain_all PySem.F.entry_all (PySem.F.args_all1 _) ?_
  unfold Builtin.«all»
  refine wpAny_bind (m := oneArg "all" _) (wpAny_pure ?_)
  refine wpAny_bind (wpAny_pyIter_gen h3 ?_)
  refine wpAny_pure ⟨plainId_quiet PySem.F.plain_all_loop _, all_loopG (X := X) (CO := fun _ _ => True) (Ft := fun H' => Q (.bl false) H') (H5 := H5) (sA := sA) (fp := fp) (Qe := fun _ H' => Q (.bl true) H') hr.hd (by have := hr.dp; omega) (fun ys H' s1 O q => ?_) (fun ys H' s1 O q => ?_) n s5 _ h7 h3 h4 ⟨rfl, ?_⟩⟩
  · exact ⟨.bl true, H', O.back I5 hf, rfl, q⟩
  · exact ⟨.bl false, H', O.back I5 hf, rfl, q⟩
  · exact wake X.A.in1.in1 none (fun _ _ => True) _ (Room.in1 (Room.in1 hr)) I5.ok.frames (fun b e => nomatch e) (fun _ _ e => e) rfl (allBare_setGen h6 rfl)
/-- any(elt for tg in iter if ..), bools handed out -/
def tAnyG (P : Addr) (wi : TI) (g : TG) (tt : L2.TT) (te : TE) (vs : List Nat) : TE := fun σ H Q => tGen P (eatB true fun H' => Q (.bl true) H') (fun _ H' => Q (.bl false) H') wi g tt te vs σ H
theorem pe_anyG {c P : Addr} {elt tg iter : Expr} {ifs : List Expr} {scope : Scope} {own : List (Str × Nat)} {p pos gpos : Pos} {wi : TI} {g : TG} {tt : L2.TT} {te : TE} {k : Nat}
    (hr : Room (k + 3) X.A) (hgl : Gl X "any") (hm : X.mg "any" = none) (hc : X.calm = true) (hN : X.N.Nodup) (TB : GxR.TabB X.base X.mg c P) (hcode : X.env.code = .ref c) (S : GSc X.N X.env.scope scope own) (hi : PI X tg iter wi)
    (hg : ∀ (Ag : Around) (s : Shared) (H : Hp) (cl : List (Str × Addr)) (C : Addr) (code : Value) (fp : List Addr) (pn : List (Addr × Obj)), Room k Ag → PG (gcx X Ag s H scope cl C code fp pn) tg g)
    (ht : ∀ (Ag : Around) (s : Shared) (H : Hp) (cl : List (Str × Addr)) (C : Addr) (code : Value) (fp : List Addr) (pn : List (Addr × Obj)), Room k Ag → PTs (gcx X Ag s H scope cl C code fp pn) ifs tt)
    (he : ∀ (Ag : Around) (s : Shared) (H : Hp) (cl : List (Str × Addr)) (C : Addr) (code : Value) (fp : List Addr) (pn : List (Addr × Obj)), Room k Ag → PE (gcx X Ag s H scope cl C code fp pn) elt te)
    (hs : ∀ v, genFold iter X.env v = pure v := by intro _; rfl) (hb : bootBuiltins "any" = some (.builtin "any") := by decide +kernel)
    (hst : starEach [.GeneratorExp elt [⟨tg, iter, ifs, 0⟩] scope gpos] X.env = (false, eval (.GeneratorExp elt [⟨tg, iter, ifs, 0⟩] scope gpos) X.env) :: starEach [] X.env := by rfl) :
    PE X (.Call (.Name "any" p) [.GeneratorExp elt [⟨tg, iter, ifs, 0⟩] scope gpos] [] pos) (tAnyG P wi g tt te (own.map (·.2))) := by
  refine ⟨fun pins s σ H Q I h => ?_⟩
  refine wpAny_Call_Name_kw (ld_blt I hgl hm hb ?_)
  refine PyProof.Rows.callWith_builtin1 ?_ hst (by rfl)
  rw [hst]
  show wpAny _ _ (spliced ((false, eval (.GeneratorExp elt [⟨tg, iter, ifs, 0⟩] scope gpos) X.env) :: backTo pos (starEach [] X.env))) _ _ s
  refine Calls.spliced_cons (thn (gen_make (hr.mono (by omega)) hc hN TB hcode S hi hg ht he hs (eatB_mono _ _) I h) fun u s5 hG => ?_)
  refine Calls.spliced_nil ?_
  obtain ⟨a, gg, cc, H5, fp, sA, n, rfl, I5, hf, h1, h2, h3, h4, h5, h6, h7, h8, wake⟩ := hG
  refine call_function_tree PySem.F.kind_any PySem.F.plain_any PySem.F.entry_any (PySem.F.args_any1 _) ?_
  unfold Builtin.«any»
  refine wpAny_bind (m := oneArg "any" _) (wpAny_pure ?_)
  refine wpAny_bind (wpAny_pyIter_gen h3 ?_)
  refine wpAny_pure ⟨plainId_quiet PySem.F.plain_any_loop _, any_loopG (X := X) (CO := fun _ _ => True) (Ft := fun H' => Q (.bl true) H') (H5 := H5) (sA := sA) (fp := fp) (Qe := fun _ H' => Q (.bl false) H') hr.hd (by have := hr.dp; omega) (fun ys H' s1 O q => ?_) (fun ys H' s1 O q => ?_) n s5 _ h7 h3 h4 ⟨rfl, ?_⟩⟩
  · exact ⟨.bl false, H', O.back I5 hf, rfl, q⟩
  · exact ⟨.bl true, H', O.back I5 hf, rfl, q⟩
  · exact wake X.A.in1.in1 none (fun _ _ => True) _ (Room.in1 (Room.in1 hr)) I5.ok.frames (fun b e => nomatch e) (fun _ _ e => e) rfl (allBare_setGen h6 rfl)
/-- a list that the items go to -/
def CoL : List V → Obj → Prop := fun ys o => ∃ acc c, o = lstObj acc c ∧ Vals ys acc.toList
abbrev eatL : Eat := fun ys _ _ c => ys.length < sizeLine ∧ c
theorem eatL_mono : EatMono eatL := fun ys y H c d cd ⟨h, e⟩ => ⟨h, cd e⟩
theorem nap_push {S : Addr} {acc : Array Value} {c : Nat} {y : V} {v : Value} (hb : AllBare s.gens) (hS : s.heap.get? S = some (lstObj acc c)) (hv : Vals ys acc.toList) (r : RelV y v) :
    Nap (some S) CoL (ys ++ [y]) s { s with heap := s.heap.update S (Obj.mapSeq (·.push v)) } := by
  refine ⟨rfl, hb, fun b o hne e => (Heap.get?_update_other _ _ (fun h => hne (by rw [h]))).trans e, fun b e => ?_⟩
  cases e
  refine ⟨_, Heap.get?_update_self _ hS rfl, ⟨acc.push v, _, rfl, ?_⟩, fun v e => nomatch e⟩
  rw [Array.toList_push]
  exact hv.append (.cons r .nil)
theorem extend_loopG {A : Around} {R : Result → Shared → Prop} {S : Addr} {res : Value} (hh : A.handled = none) (hd : A.depth < recursionLimit) (hSa : S ≠ a) (hSc : S ≠ cStatics)
    (hend : ∀ ys H s1 acc c, Out X (some S) CoL a g sA H5 fp ys H s1 → s1.heap.get? S = some (lstObj acc c) → Vals ys acc.toList → Qe ys H → R (.ok (.ret res)) s1) :
    ∀ (n : Nat) (s : Shared) (gs : GenState), s.heap.NoLimit → s.heap.IsGen a g → s.gens[g]? = some gs → gs.Goes (model X.prog X.w) A.in1.in1 (RG X (some S) CoL Qe a g sA H5 fp) (YG X (some S) CoL eatL a g sA H5 fp) n (.send .none) (s.setGen g .running) →
      codeAny (model X.prog X.w) A (.builtin "list.extend.loop" ⟨[.ref S, .ref a, res], []⟩) R s := by
  intro n
  have own : ∀ {ys : List V} {H : Hp} {s1 : Shared}, Out X (some S) CoL a g sA H5 fp ys H s1 → ∃ acc c, s1.heap.get? S = some (lstObj acc c) ∧ Vals ys acc.toList := fun {ys H s1} O => by
    obtain ⟨_, o, h2, acc, c, rfl, h3⟩ := O.own S rfl
    exact ⟨acc, c, h2, h3⟩
  induction n with
  | zero =>
    intro s gs hl hg hgs hgo
    refine codeAny_builtin PySem.F.entry_extend_loop ?_
    rw [Around.under_plainId PySem.F.plain_extend_loop _]
    show wpAny _ A.in1 (pyNext (.ref a) >>= _) _ _ s
    refine wpAny_bind (next_gen (A := A.in1) hh hl hd hg hgs hgo (fun v y ys H s1 gs' hb hsz r O hsm e hg' => ?_) (fun ys H s1 O hsm q => ?_) eatL_mono fun _ ys y v _ s1 _ r _ hb ho => ?_)
    · obtain ⟨_, m, h, _⟩ := e; cases h
    · obtain ⟨acc, c, h1, h2⟩ := own O
      exact wpAny_pure (hend ys H s1 acc c O h1 h2 q)
    · obtain ⟨o, h1, acc, c, rfl, h2⟩ := ho S rfl
      exact ⟨_, nap_push hb h1 h2 r⟩
  | succ n ih =>
    intro s gs hl hg hgs hgo
    refine codeAny_builtin PySem.F.entry_extend_loop ?_
    rw [Around.under_plainId PySem.F.plain_extend_loop _]
    show wpAny _ A.in1 (pyNext (.ref a) >>= _) _ _ s
    refine wpAny_bind (next_gen (A := A.in1) hh hl hd hg hgs hgo (fun v y ys H s1 gs' hb hsz r O hsm e hg' => ?_) (fun ys H s1 O hsm q => ?_) eatL_mono fun h => nomatch h)
    · obtain ⟨hlen, m, h, e⟩ := e
      cases h
      have O' := O.kept (s' := s1.setGen g gs') rfl (allBare_setGen O.bare hb) fun _ _ z => z
      obtain ⟨acc, c, h1, h2⟩ := own O'
      have hasz : acc.size < sizeLine := by
        have e1 := h2.length
        have e2 : acc.toList.length = acc.size := by simp
        omega
      have nap := nap_push O'.bare h1 h2 r
      show wpAny _ A.in1 (updateSeq S (·.push v) >>= _) _ _ _
      refine wpAny_bind ?_
      refine wpAny_updateSeq h1 rfl (wpAny_pure ⟨plainId_quiet PySem.F.plain_extend_loop _, ?_⟩) (Nat.le_of_lt hasz) (by show (acc.push v).size ≤ sizeLine + 1; rw [Array.size_push]; omega)
      have kpn : ∀ b o, b ≠ S → s1.heap.get? b = some o → (s1.heap.update S (Obj.mapSeq (·.push v))).get? b = some o := fun b o hbS e => (Heap.get?_update_other _ _ (Ne.symm hbS)).trans e
      refine ih _ gs' ?_ ?_ hg' (e _ nap hg').2
      · obtain ⟨mc, hns, hnn⟩ := O'.lim
        exact ⟨mc, hns.at' fun o e => kpn _ o (Ne.symm hSc) e, hnn⟩
      · obtain ⟨o, nm, qn, ho, r⟩ := O'.gen
        exact ⟨o, nm, qn, kpn a o (Ne.symm hSa) ho, r⟩
    · obtain ⟨acc, c, h1, h2⟩ := own O
      exact wpAny_pure (hend ys H s1 acc c O h1 h2 q)
/-- all items of a generator -/
theorem collect_gen {A : Around} {k n : Nat} {c : Code} {Ex : Value → Shared → Prop} {Q : List Value → Shared → Prop} (hr : Room (k + 3) A) (hfr : A.frames = some X.stack) (hlt : sA.heap.objs.size ≤ a) (ha : a < s.heap.objs.size) (hg : s.heap.IsGen a g) (hgs : s.gens[g]? = some (.fresh c)) (hb : AllBare s.gens) (hl : s.heap.NoLimit)
    (wake : ∀ (Aw : Around) (S : Option Addr) (CO : List V → Obj → Prop) (s2 : Shared), Room (k + 1) Aw → Aw.frames = some X.stack → (∀ b, S = some b → s.heap.objs.size ≤ b ∧ ∃ o, s2.heap.get? b = some o ∧ CO [] o ∧ ∀ v, o.data ≠ .cell v) →
      (∀ b o, s.heap.get? b = some o → s2.heap.get? b = some o) → s2.os = s.os → AllBare s2.gens →
      Seg (model X.prog X.w) Aw (RG X S CO Qe a g sA H5 fp) (YG X S CO eatL a g sA H5 fp) n s2 c ((model X.prog X.w).den c) [] s2)
    (hQ : ∀ ys H s1 S acc cc, s.heap.objs.size ≤ S → Out X (some S) CoL a g sA H5 fp ys H s1 → s1.heap.get? S = some (lstObj acc cc) → Vals ys acc.toList → Qe ys H → Q acc.toList s1) :
    wpAny (model X.prog X.w) A (collect (.ref a)) Q Ex s := by
  have hSa : s.heap.objs.size ≠ a := Nat.ne_of_gt ha
  have hcl : cStatics < s.heap.objs.size := let ⟨_, hn, _⟩ := hl; hn.lt
  have hSc : s.heap.objs.size ≠ cStatics := Nat.ne_of_gt hcl
  unfold collect
  refine wpAny_bind (wpAny_runValue (codeAny_builtin PySem.F.entry_proto_collect ?_))
  rw [Around.under_plainId PySem.F.plain_proto_collect _]
  show wpAny _ A.in1 (newList [] >>= fun l => again (.builtin "list.__iadd__" ⟨[l, .ref a], []⟩)) _ _ s
  refine wpAny_bind (wpAny_newObj_type ?_)
  refine wpAny_pure ⟨plainId_quiet PySem.F.plain_list_iadd _, codeAny_builtin PySem.F.entry_list_iadd ?_⟩
  rw [Around.under_plainId PySem.F.plain_list_iadd _]
  have hS : (s.heap.push { cls := .type "list", data := .seq ([] : List Value).toArray }).get? s.heap.objs.size = some { cls := .type "list", data := .seq ([] : List Value).toArray } := Heap.get?_push_size _ rfl
  have k1 : ∀ b o, s.heap.get? b = some o → (s.heap.push { cls := .type "list", data := .seq ([] : List Value).toArray }).get? b = some o := fun b o e => Heap.get?_push_of_some _ e
  have up : ∀ (h : Heap) (f : Obj → Obj), (∀ b o, s.heap.get? b = some o → h.get? b = some o) → ∀ b o, s.heap.get? b = some o → (h.update s.heap.objs.size f).get? b = some o := fun h f q b o e =>
    (Heap.get?_update_other _ _ (Ne.symm (Nat.ne_of_lt (Heap.lt_size e)))).trans (q b o e)
  have gty : ∀ {h : Heap}, (∀ b o, s.heap.get? b = some o → h.get? b = some o) → h.IsGen a g := fun {h} q => hg.keeps q
  show wpAny _ A.in1 (Builtin.List.listExtendWith (.ref s.heap.objs.size) (.ref a) (.ref s.heap.objs.size)) _ _ _
  unfold Builtin.List.listExtendWith
  refine wpAny_bind (wpAny_typeOf (Heap.IsGen.typeIs (s := { s with heap := _ }) (gty k1)) ?_)
  have h1 : Builtin.List.listSameRef (.ref s.heap.objs.size) (.ref a) = false := by simp [Builtin.List.listSameRef, hSa]
  have h2 : (Value.type "generator" == Value.type "list") = false := by decide
  have h3 : (Value.type "generator" == Value.type "tuple") = false := by decide
  simp only [h1, h2, h3, Bool.or_false, Bool.false_eq_true, if_false]
  refine wpAny_bind (wpAny_pyIter_gen (s := { s with heap := _ }) (gty k1) ?_)
  refine wpAny_bind (wpAny_holding ?_)
  unfold Builtin.List.listLengthHint
  refine wpAny_bind (wpAny_specialOf (Heap.IsGen.typeIs (s := { s with heap := _ }) (gty k1)) PySem.F.gen_no_len ?_)
  show wpAny _ A.in1 (specialOf (Value.ref a) (Str.ofString "__length_hint__") >>= _) _ _ _
  refine wpAny_bind (wpAny_specialOf (Heap.IsGen.typeIs (s := { s with heap := _ }) (gty k1)) PySem.F.gen_no_hint ?_)
  refine wpAny_pure ?_
  show wpAny _ A.in1 (rule "list.extend.makes-room" >>= fun _ => Builtin.List.listTouch (.ref s.heap.objs.size) >>= fun _ =>
    again (.builtin "list.extend.loop" ⟨[.ref s.heap.objs.size, .ref a, .ref s.heap.objs.size], []⟩)) _ _ _
  refine wpAny_bind (wpAny_rule ?_)
  refine wpAny_bind ?_
  show wpAny _ A.in1 (updateSeq s.heap.objs.size (·.push .none) >>= fun _ => updateSeq s.heap.objs.size (·.pop)) _ _ _
  refine wpAny_bind (wpAny_updateSeq hS rfl ?_)
  have hS3 := Heap.get?_update_self (Obj.mapSeq (·.push Value.none)) hS rfl
  refine wpAny_updateSeq (hz := by seq_fits) hS3 rfl ?_
  have hS4 := Heap.get?_update_self (Obj.mapSeq (·.pop)) hS3 rfl
  have k4 := up _ (Obj.mapSeq (·.pop)) (up _ (Obj.mapSeq (·.push Value.none)) k1)
  refine wpAny_pure ⟨plainId_quiet PySem.F.plain_extend_loop _, ?_⟩
  refine extend_loopG (X := X) (sA := sA) (H5 := H5) (fp := fp) (Qe := Qe) hr.hd (by have := hr.dp; show A.depth < _; omega) hSa hSc (fun ys H s1 acc cc O e1 e2 q => ?_) n _ _ (hl.keeps k4) (gty k4) hgs ⟨rfl, ?_⟩
  · show wpAny _ A (load s.heap.objs.size >>= _) _ _ s1
    refine wpAny_bind (wpAny_load e1 ?_)
    exact wpAny_pure (hQ ys H s1 _ acc cc (Nat.le_refl _) O e1 e2 q)
  · exact wake A.in1.in1 (some s.heap.objs.size) CoL _ (Room.in1 (Room.in1 hr)) hfr (fun b e => by cases e; exact ⟨Nat.le_refl _, _, hS4, ⟨#[], _, rfl, .nil⟩, fun v e => nomatch e⟩) k4 rfl (allBare_setGen (s := { s with heap := _ }) hb rfl)
end
end Cs
namespace Cs
open PySem PySem.Spec PyProof.Rows L2 GenW
open Sem (wp)
open AutoSeq1 (wpAny_loadPart')
/-- tuple(..) of a generator, by what is to hold of its list -/
theorem code_tuple_gen {P : Program} {w : World} {A : Around} {Ex : Value → Shared → Prop} {s : Shared} {a : Addr} {g : Nat} {Q₁ : Value → Shared → Prop} (hg : s.heap.IsGen a g)
    (hcol : wpAny (model P w) A.in1 (collect (.ref a)) (fun l s' => l.length ≤ sizeLine ∧ Q₁ (.ref s'.heap.objs.size) { s' with heap := s'.heap.push { cls := .type "tuple", data := .seq l.toArray } }) Ex s) :
    codeAny (model P w) A (.call (.builtin "tuple.__new__") ⟨[.type "tuple", .ref a], []⟩) (wants Q₁ Ex) s := by
  refine codeAny_of_tree ?_
  show wpAny _ A.in1 (do checkBuiltinCall "tuple.__new__" ⟨[.type "tuple", .ref a], []⟩; again (.builtin "tuple.__new__" ⟨[.type "tuple", .ref a], []⟩)) _ _ s
  refine wpAny_bind (wpAny_of_eq (PySem.F.newCall_tuple_1 _) (wpAny_pure ⟨plainId_quiet PySem.F.plain_tuple_new _, codeAny_builtin PySem.F.entry_tuple_new ?_⟩))
  rw [Around.under_plainId PySem.F.plain_tuple_new _]
  have hsub := sub_tuple_self
  have hinit := init_tuple_lookup
  have hmh := madeHere_tuple
  have hTI := hg.typeIs
  have hcol' : ∀ (Q : List Value → Shared → Prop) (E : Value → Shared → Prop), (∀ e s', Ex e s' → E e s') → (∀ l s', (l.length ≤ sizeLine ∧ Q₁ (.ref s'.heap.objs.size) { s' with heap := s'.heap.push { cls := .type "tuple", data := .seq l.toArray } }) → Q l s') → wpAny (model P w) A.in1 (collect (.ref a)) Q E s := fun Q E h2 h1 => wpAny_mono hcol h1 h2
  wp_walk using wpAny_typeOf hTI, hcol' _ _ (fun _ _ h => h)
  intro l s' ⟨hz, hq⟩
  show wpAny _ _ (Builtin.Tuple.tupleExact l.toArray >>= fun v => ret v) _ _ _
  unfold Builtin.Tuple.tupleExact
  refine wpAny_bind (wpAny_newObj_type ?_ (by show l.toArray.size ≤ sizeLine; rw [List.size_toArray]; exact hz))
  exact wpAny_pure hq
section
variable {X : Cx}
/-- tuple(elt for tg in iter if ..) -/
def tTupG (P : Addr) (wi : TI) (g : TG) (tt : L2.TT) (te : TE) (vs : List Nat) : TE := fun σ H Q => tGen P eatL (fun ys H' => ys.length ≤ sizeLine ∧ ∀ p, H' p = none → Q (.ref p) (upd H' p (.tup ys))) wi g tt te vs σ H
theorem pe_tupG {c P : Addr} {elt tg iter : Expr} {ifs : List Expr} {scope : Scope} {own : List (Str × Nat)} {p pos gpos : Pos} {wi : TI} {g : TG} {tt : L2.TT} {te : TE} {k : Nat}
    (hr : Room (k + 5) X.A) (hgl : Gl X "tuple") (hm : X.mg "tuple" = none) (hc : X.calm = true) (hN : X.N.Nodup) (TB : GxR.TabB X.base X.mg c P) (hcode : X.env.code = .ref c) (S : GSc X.N X.env.scope scope own) (hi : PI X tg iter wi)
    (hg : ∀ (Ag : Around) (s : Shared) (H : Hp) (cl : List (Str × Addr)) (C : Addr) (code : Value) (fp : List Addr) (pn : List (Addr × Obj)), Room k Ag → PG (gcx X Ag s H scope cl C code fp pn) tg g)
    (ht : ∀ (Ag : Around) (s : Shared) (H : Hp) (cl : List (Str × Addr)) (C : Addr) (code : Value) (fp : List Addr) (pn : List (Addr × Obj)), Room k Ag → PTs (gcx X Ag s H scope cl C code fp pn) ifs tt)
    (he : ∀ (Ag : Around) (s : Shared) (H : Hp) (cl : List (Str × Addr)) (C : Addr) (code : Value) (fp : List Addr) (pn : List (Addr × Obj)), Room k Ag → PE (gcx X Ag s H scope cl C code fp pn) elt te)
    (hs : ∀ v, genFold iter X.env v = pure v := by intro _; rfl) (hb : bootBuiltins "tuple" = some (.type "tuple") := by decide +kernel)
    (hst : starEach [.GeneratorExp elt [⟨tg, iter, ifs, 0⟩] scope gpos] X.env = (false, eval (.GeneratorExp elt [⟨tg, iter, ifs, 0⟩] scope gpos) X.env) :: starEach [] X.env := by rfl) :
    PE X (.Call (.Name "tuple" p) [.GeneratorExp elt [⟨tg, iter, ifs, 0⟩] scope gpos] [] pos) (tTupG P wi g tt te (own.map (·.2))) := by
  refine ⟨fun pins s σ H Q I h => ?_⟩
  refine wpAny_Call_Name_kw (ld_blt I hgl hm hb ?_)
  refine PyProof.Rows.callWith_type1 ?_ hst rfl
  rw [hst]
  show wpAny _ _ (spliced ((false, eval (.GeneratorExp elt [⟨tg, iter, ifs, 0⟩] scope gpos) X.env) :: backTo pos (starEach [] X.env))) _ _ s
  refine Calls.spliced_cons (thn (gen_make (hr.mono (by omega)) hc hN TB hcode S hi hg ht he hs eatL_mono I h) fun u s5 hG => ?_)
  refine Calls.spliced_nil ?_
  obtain ⟨a, gg, cc, H5, fp, sA, n, rfl, I5, hf, h1, h2, h3, h4, h5, h6, h7, h8, wake⟩ := hG
  refine callType_codes (Q₁ := fun obj s₁ => s₁.TypeIs obj "tuple" ∧ EP X pins σ Q obj s₁) PySem.F.called_tuple (PySem.F.typeCall_tuple_1 _) PySem.F.entry_object_init
    (code_tuple_gen (A := X.A.in1) h3 (collect_gen (k := k) (Room.in1 (Room.in1 hr)) I5.ok.frames h1 h2 h3 h4 h6 h7 wake fun ys H' s1 S acc cc hS O e1 e2 ⟨hz, q⟩ => ?_)) fun obj s₁ h₁ => ?_
  · have hl := e2.length
    refine ⟨by omega, ⟨_, Heap.get?_push_size _ rfl, rfl⟩, ?_⟩
    have I1 := O.back I5 hf
    have I2 : Inv X pins σ (upd H' s1.heap.objs.size (.tup ys)) { s1 with heap := s1.heap.push { cls := .type "tuple", data := .seq acc.toList.toArray } } :=
      I1.laid (t' := s1.toks) (fun b o e => Heap.get?_push_of_some _ e) (Nat.le_refl _) (show ObjOk X.prog X.w _ _ _ (.tup ys) from ⟨hz, acc.toList, e2, IsTup.new _ _⟩)
    exact ⟨.ref s1.heap.objs.size, _, I2, rfl, q _ (I1.hok.fresh (Nat.le_refl _))⟩
  · exact ⟨h₁.1, PySem.F.args_object_init_2 obj _, object_init_meets PySem.F.called_tuple.init.lookup PySem.F.called_tuple.made (by decide) X.prog X.w X.A.in1 _ s₁ ⟨h₁.1, rfl, h₁.2⟩⟩
end
end Cs
namespace Cs
open PySem PySem.Spec PyProof.Rows L2 GenW
open Sem (wp)
/-! ### sum of ints -/
def isum (ys : List V) : Int := (ys.map fun v => match v with | .int i => i | _ => 0).sum
theorem isum_snoc (ys : List V) (i : Int) : isum (ys ++ [.int i]) = isum ys + i := by
  unfold isum; rw [List.map_append, List.sum_append]; simp
def CoI : List V → Obj → Prop := fun ys o => ∃ (t : Tok) (c : Nat), o = { cls := .type "list", dict := none, data := .seq #[.int (isum ys) t] c, slots := #[] }
abbrev eatI : Eat := fun ys y _ c => ∃ i, y = .int i ∧ InLong i ∧ InLong (isum ys + i) ∧ c
theorem eatI_mono : EatMono eatI := fun ys y H c d cd ⟨i, a1, a2, a3, e⟩ => ⟨i, a1, a2, a3, cd e⟩
section
variable {X : Cx} {pins : List (Addr × Obj)} {σ : L2.St} {H H5 : Hp} {s s' sA : Shared} {a : Addr} {g : Nat} {fp : List Addr} {ys : List V} {Qe : List V → Hp → Prop}
theorem nap_sum {S : Addr} {z : Int} {t u : Tok} {c : Nat} {i : Int} (hb : AllBare s.gens) (hS : s.heap.get? S = some { cls := .type "list", dict := none, data := .seq #[.int z t] c, slots := #[] }) (hz : z = isum ys) :
    Nap (some S) CoI (ys ++ [.int i]) s { s with heap := s.heap.update S (Obj.mapSeq fun _ => #[.int (z + i) u]) } := by
  refine ⟨rfl, hb, fun b o hne e => (Heap.get?_update_other _ _ (fun h => hne (by rw [h]))).trans e, fun b e => ?_⟩
  cases e
  exact ⟨_, Heap.get?_update_self _ hS rfl, ⟨u, _, by rw [isum_snoc, ← hz]; rfl⟩, fun v e => nomatch e⟩
theorem sum_loopG {A : Around} {R : Result → Shared → Prop} {S : Addr} (hh : A.handled = none) (hd : A.depth < recursionLimit) (hSa : S ≠ a) (hSc : S ≠ cStatics)
    (hend : ∀ ys H s1 t, Out X (some S) CoI a g sA H5 fp ys H s1 → Qe ys H → R (.ok (.ret (.int (isum ys) t))) s1) :
    ∀ (n : Nat) (s : Shared) (gs : GenState) (ys0 : List V) (o0 : Obj), s.heap.NoLimit → s.heap.IsGen a g → s.heap.get? S = some o0 → CoI ys0 o0 → s.gens[g]? = some gs →
      gs.Goes (model X.prog X.w) A.in1.in1 (RG X (some S) CoI Qe a g sA H5 fp) (YG X (some S) CoI eatI a g sA H5 fp) n (.send .none) (s.setGen g .running) →
      codeAny (model X.prog X.w) A (.builtin "sum.loop" ⟨[.ref a, .ref S, rawInt 0, rawInt 0], []⟩) R s := by
  intro n
  induction n with
  | zero =>
    intro s gs ys0 o0 hl hg hS hco hgs hgo
    obtain ⟨t0, c0, rfl⟩ := hco
    refine codeAny_builtin PySem.F.entry_sum_loop ?_
    rw [Around.under_plainId PySem.F.plain_sum_loop _]
    show wpAny _ A.in1 (seqItems? (.ref S) >>= _) _ _ s
    refine wpAny_bind (wpAny_seqItems hS rfl ?_)
    show wpAny _ A.in1 (tryCatch (pyNext (.ref a)) _ >>= _) _ _ s
    refine wpAny_bind (wpAny_tryCatch (next_gen (A := A.in1) hh hl hd hg hgs hgo (fun v y ys H s1 gs' hb hsz r O hsm e hg' => ?_) (fun ys H s1 O hsm q => ?_) eatI_mono fun _ ys y v _ s1 _ r _ hb ho => ?_))
    · obtain ⟨i, rfl, _, _, m, h, _⟩ := e; cases h
    · obtain ⟨_, o, e1, t, c, rfl⟩ := O.own S rfl
      have e2 := hsm S _ rfl hS
      rw [e1] at e2
      have ez : isum ys = isum ys0 := by
        injection e2 with e2; injection e2 with _ _ e2 _; injection e2 with e2 _; injection e2 with e2; injection (List.cons.inj e2).1
      rw [← ez]
      exact wpAny_pure (hend ys H s1 t0 O q)
    · obtain ⟨o, h1, t, c, rfl⟩ := ho S rfl
      cases y with
      | int i => exact ⟨_, nap_sum (u := 0) hb h1 rfl⟩
      | _ => exact ⟨{ s1 with heap := s1.heap.update S (Obj.mapSeq fun _ => #[.int (isum (ys ++ [_])) 0]) }, ⟨rfl, hb, fun b o hne e => (Heap.get?_update_other _ _ (fun h => hne (by rw [h]))).trans e, fun b e => by cases e; exact ⟨_, Heap.get?_update_self _ h1 rfl, ⟨0, _, rfl⟩, fun v e => nomatch e⟩⟩⟩
  | succ n ih =>
    intro s gs ys0 o0 hl hg hS hco hgs hgo
    obtain ⟨t0, c0, rfl⟩ := hco
    refine codeAny_builtin PySem.F.entry_sum_loop ?_
    rw [Around.under_plainId PySem.F.plain_sum_loop _]
    show wpAny _ A.in1 (seqItems? (.ref S) >>= _) _ _ s
    refine wpAny_bind (wpAny_seqItems hS rfl ?_)
    show wpAny _ A.in1 (tryCatch (pyNext (.ref a)) _ >>= _) _ _ s
    refine wpAny_bind (wpAny_tryCatch (next_gen (A := A.in1) hh hl hd hg hgs hgo (fun v y ys H s1 gs' hb hsz r O hsm e hg' => ?_) (fun ys H s1 O hsm q => ?_) eatI_mono fun h => nomatch h))
    · obtain ⟨i, rfl, ⟨f1, f2⟩, ⟨f3, f4⟩, m, h, e⟩ := e
      cases h
      obtain ⟨tk, rfl⟩ := r
      obtain ⟨_, o, e1, t, c, rfl⟩ := O.own S rfl
      have e2 := hsm S _ rfl hS
      have ez : isum ys = isum ys0 := by
        rw [e1] at e2
        injection e2 with e2; injection e2 with _ _ e2 _; injection e2 with e2 _; injection e2 with e2; injection (List.cons.inj e2).1
      have O' := O.kept (s' := s1.setGen g gs') rfl (allBare_setGen O.bare hb) fun _ _ z => z
      have hc : ((decide (-(2 ^ 63) ≤ i) && decide (i < 2 ^ 63)) && (decide (-(2 ^ 63) ≤ isum ys0 + i) && decide (isum ys0 + i < 2 ^ 63))) = true := by
        rw [ez] at f3 f4
        simp only [Bool.and_eq_true, decide_eq_true_eq]
        exact ⟨⟨f1, f2⟩, f3, f4⟩
      show wpAny _ A.in1 (if (_ : Bool) = true then (mkInt (isum ys0 + i) >>= _) else _) _ _ _
      split
      · refine wpAny_bind (wpAny_mkInt ?_)
        show wpAny _ A.in1 (updateSeq S (fun _ => #[.int (isum ys0 + i) s1.toks]) >>= _) _ _ _
        have kpn : ∀ b o, b ≠ S → s1.heap.get? b = some o → (s1.heap.update S (Obj.mapSeq (fun _ => #[.int (isum ys0 + i) s1.toks]))).get? b = some o := fun b o hbS e => (Heap.get?_update_other _ _ (Ne.symm hbS)).trans e
        have nap6 : Nap (some S) CoI (ys ++ [.int i]) (s1.setGen g gs') { s1.setGen g gs' with heap := s1.heap.update S (Obj.mapSeq fun _ => #[.int (isum ys0 + i) s1.toks]), toks := s1.toks + 1 } := by
          have := nap_sum (s := s1.setGen g gs') (ys := ys) (u := s1.toks) (i := i) O'.bare e2 ez.symm
          exact ⟨this.os, this.bare, this.keep, this.own⟩
        refine wpAny_bind ?_
        refine wpAny_updateSeq (s := { s1.setGen g gs' with toks := s1.toks + 1 }) e2 rfl (wpAny_pure ⟨plainId_quiet PySem.F.plain_sum_loop _, ih _ gs' (ys ++ [.int i]) _ ?_ ?_ (Heap.get?_update_self _ e2 rfl) ⟨s1.toks, _, by rw [isum_snoc, ez]; rfl⟩ hg' (e _ nap6 hg').2⟩)
        · obtain ⟨mc, hns, hnn⟩ := O'.lim
          exact ⟨mc, hns.at' fun o e => kpn _ o (Ne.symm hSc) e, hnn⟩
        · obtain ⟨o, nm, qn, ho, r⟩ := O'.gen
          exact ⟨o, nm, qn, kpn a o (Ne.symm hSa) ho, r⟩
      · rename_i hneg
        exact absurd hc hneg
    · obtain ⟨_, o, e1, t, c, rfl⟩ := O.own S rfl
      have e2 := hsm S _ rfl hS
      rw [e1] at e2
      have ez : isum ys = isum ys0 := by
        injection e2 with e2; injection e2 with _ _ e2 _; injection e2 with e2 _; injection e2 with e2; injection (List.cons.inj e2).1
      rw [← ez]
      exact wpAny_pure (hend ys H s1 t0 O q)
/-- sum(elt for tg in iter if ..), ints handed out -/
def tSumG (P : Addr) (wi : TI) (g : TG) (tt : L2.TT) (te : TE) (vs : List Nat) : TE := fun σ H Q => tGen P eatI (fun ys H' => Q (.int (isum ys)) H') wi g tt te vs σ H
theorem pe_sumG {c P : Addr} {elt tg iter : Expr} {ifs : List Expr} {scope : Scope} {own : List (Str × Nat)} {p pos gpos : Pos} {wi : TI} {g : TG} {tt : L2.TT} {te : TE} {k : Nat}
    (hr : Room (k + 3) X.A) (hgl : Gl X "sum") (hm : X.mg "sum" = none) (hc : X.calm = true) (hN : X.N.Nodup) (TB : GxR.TabB X.base X.mg c P) (hcode : X.env.code = .ref c) (S : GSc X.N X.env.scope scope own) (hi : PI X tg iter wi)
    (hg : ∀ (Ag : Around) (s : Shared) (H : Hp) (cl : List (Str × Addr)) (C : Addr) (code : Value) (fp : List Addr) (pn : List (Addr × Obj)), Room k Ag → PG (gcx X Ag s H scope cl C code fp pn) tg g)
    (ht : ∀ (Ag : Around) (s : Shared) (H : Hp) (cl : List (Str × Addr)) (C : Addr) (code : Value) (fp : List Addr) (pn : List (Addr × Obj)), Room k Ag → PTs (gcx X Ag s H scope cl C code fp pn) ifs tt)
    (he : ∀ (Ag : Around) (s : Shared) (H : Hp) (cl : List (Str × Addr)) (C : Addr) (code : Value) (fp : List Addr) (pn : List (Addr × Obj)), Room k Ag → PE (gcx X Ag s H scope cl C code fp pn) elt te)
    (hs : ∀ v, genFold iter X.env v = pure v := by intro _; rfl) (hb : bootBuiltins "sum" = some (.builtin "sum") := by decide +kernel)
    (hst : starEach [.GeneratorExp elt [⟨tg, iter, ifs, 0⟩] scope gpos] X.env = (false, eval (.GeneratorExp elt [⟨tg, iter, ifs, 0⟩] scope gpos) X.env) :: starEach [] X.env := by rfl) :
    PE X (.Call (.Name "sum" p) [.GeneratorExp elt [⟨tg, iter, ifs, 0⟩] scope gpos] [] pos) (tSumG P wi g tt te (own.map (·.2))) := by
  refine ⟨fun pins s σ H Q I h => ?_⟩
  refine wpAny_Call_Name_kw (ld_blt I hgl hm hb ?_)
  refine PyProof.Rows.callWith_builtin1 ?_ hst (by rfl)
  rw [hst]
  show wpAny _ _ (spliced ((false, eval (.GeneratorExp elt [⟨tg, iter, ifs, 0⟩] scope gpos) X.env) :: backTo pos (starEach [] X.env))) _ _ s
  refine Calls.spliced_cons (thn (gen_make (hr.mono (by omega)) hc hN TB hcode S hi hg ht he hs eatI_mono I h) fun u s5 hG => ?_)
  refine Calls.spliced_nil ?_
  obtain ⟨a, gg, cc, H5, fp, sA, n, rfl, I5, hf, h1, h2, h3, h4, h5, h6, h7, h8, wake⟩ := hG
  have hSa : s5.heap.objs.size ≠ a := Nat.ne_of_gt h2
  have hcl : cStatics < s5.heap.objs.size := let ⟨_, hn, _⟩ := h7; hn.lt
  refine call_function_tree PySem.F.kind_sum PySem.F.plain_sum PySem.F.entry_sum (PySem.F.args_sum1 _) ?_
  unfold Builtin.«sum»
  simp only [List.length_cons, List.length_nil]
  rw [if_neg (by decide)]
  refine wpAny_bind (wpAny_of_eq (show Builtin.Builtins.bindParams "sum" ["start"] 0 { } = pure [none] from rfl) ?_)
  refine wpAny_bind (wpAny_pyIter_gen h3 ?_)
  refine wpAny_bind (wpAny_mkInt ?_)
  refine wpAny_bind (wpAny_pure ?_)
  simp only [List.forIn_cons, List.forIn_nil]
  refine wpAny_bind (wpAny_bind (wpAny_bind (wpAny_isInstance (T := "int") (b := false) (typeIs_int _ _ _) PySem.sub_int_str ?_)))
  simp only [Bool.false_eq_true, if_false]
  refine wpAny_pure (wpAny_bind (wpAny_bind (wpAny_isInstance (T := "int") (b := false) (typeIs_int _ _ _) PySem.sub_int_bytes ?_)))
  simp only [Bool.false_eq_true, if_false]
  refine wpAny_pure (wpAny_bind (wpAny_bind (wpAny_isInstance (T := "int") (b := false) (typeIs_int _ _ _) PySem.sub_int_bytearray ?_)))
  simp only [Bool.false_eq_true, if_false]
  refine wpAny_pure (wpAny_pure ?_)
  refine wpAny_bind (wpAny_newObj_type ?_)
  have k1 : ∀ b o, s5.heap.get? b = some o → (s5.heap.push { cls := .type "list", data := .seq #[Value.int 0 s5.toks] }).get? b = some o := fun b o e => Heap.get?_push_of_some _ e
  have hS : (s5.heap.push { cls := .type "list", data := .seq #[Value.int 0 s5.toks] }).get? s5.heap.objs.size = some { cls := .type "list", data := .seq #[Value.int 0 s5.toks] } := Heap.get?_push_size _ rfl
  refine wpAny_pure ⟨plainId_quiet PySem.F.plain_sum_loop _, sum_loopG (X := X) (H5 := H5) (sA := sA) (fp := fp) (Qe := fun ys H' => Q (.int (isum ys)) H') hr.hd (by have := hr.dp; omega) hSa (Nat.ne_of_gt hcl) (fun ys H' s1 t O q => ?_) n _ _ [] _ (h7.keeps k1) (h3.keeps k1) hS ⟨s5.toks, _, rfl⟩ h4 ⟨rfl, ?_⟩⟩
  · exact ⟨.int (isum ys), H', O.back I5 hf, ⟨t, rfl⟩, q⟩
  · exact wake X.A.in1.in1 (some s5.heap.objs.size) CoI _ (Room.in1 (Room.in1 hr)) I5.ok.frames (fun b e => by cases e; exact ⟨Nat.le_refl _, _, hS, ⟨s5.toks, _, rfl⟩, fun v e => nomatch e⟩) k1 rfl (allBare_setGen (s := { s5 with heap := _, toks := _ }) h6 rfl)
end
end Cs

namespace Cs
open PySem PySem.Spec PyProof.Rows L2
theorem gr_tabbed {P : Addr} {H H' : Hp} (t : GxR.TabG H P) (h : GxR.Tabbed P H H') : Gr H H' := by
  obtain ⟨ps, hP, _⟩ := t
  refine ⟨fun a u _ e n => ?_, fun a xs e => ?_, fun a o u e => ?_, fun a ⟨qs, e, r⟩ => ?_, fun a e => ?_⟩
  · rw [h.2 a (fun z => by rw [z, hP] at e; cases e; exact n _ rfl)]; exact e
  · rw [h.2 a (fun z => by rw [z, hP] at e; cases e)]; exact e
  · rw [h.2 a (fun z => by rw [z, hP] at e; cases e)]; exact e
  · by_cases z : a = P
    · rw [z]; exact h.1
    · exact ⟨qs, by rw [h.2 a z]; exact e, r⟩
  · by_cases z : a = P
    · obtain ⟨⟨qs, e2, _⟩, _⟩ := h
      rw [z, e2] at e; cases e
    · rw [h.2 a z] at e; exact e
/-- a def whose body holds generator expressions: its code object and its table -/
structure DfG (K : PySem.W.Frag) (mg : Str → Option Value) (x : Str) (st : Stmt) (ps : List Str) (c P : Addr) : Prop where
  ex : ∃ (f : Addr) (oc : Value) (od : Option Addr) (kV doc pm : Value) (an : Option Addr) (ct : Value) (osl : Array (Option Value)),
    K.lookup f = some ⟨oc, od, .func (PySem.W.fnOf x x (defArgs st) (defBody st) (defScope st) .none kV doc pm an (.ref c) ct), osl⟩ ∧ PySem.W.codeIn K (.ref c) x = true ∧ mg x = some (.ref f) ∧ PySem.W.keepIn K (.ref f) = true ∧
    Binds K (PySem.W.fnOf x x (defArgs st) (defBody st) (defScope st) .none kV doc pm an (.ref c) ct) ps []
section
variable {P : Program} {w : World} {K : PySem.W.Frag} {mg : Str → Option Value} {base : Heap} {k : Nat} {x : Str} {sp : Sp} {c T : Addr}
theorem DfG.ok {st : Stmt} {N ps : List Str} (D : DfG K mg x st ps c T) (S : FnScope N ps (defScope st)) (len : ∀ vs H Q E, sp vs H Q E → vs.length = ps.length)
    (hbody : ∀ (f : Addr) (A : Around) (outer : List Env) (s : Shared) (H : Hp) (vs : List V) (Q : VK) (E : XK), Room k (A.deeper (envOfC x (defScope st) s.heap.objs.size f (.ref c))) → sp vs H Q E →
      ∃ t, PSs (cxOf CX0 P w K mg base N x (defScope st) f (.ref c) A outer s H E).nox (defBody st) t ∧ t { nx := fun _ H' => Q .non H', rt := Q } (start N vs) H) : Cl CX0 P w K mg base (k + 1) x sp := by
  obtain ⟨f, oc, od, kV, doc, pm, an, ct, osl, lk, hcd, hm, kp, hb⟩ := D.ex
  refine ⟨f, _, ps, fn_of lk hcd S len fun A outer s H vs Q E hr hsp => ?_, hm, kp, hb⟩
  obtain ⟨t, h, q⟩ := hbody f A outer s H vs Q E hr hsp
  exact ⟨t, h.nox, q⟩
theorem DfG.none {CX : CXT} {st : Stmt} {ps : List Str} (D : DfG K mg x st ps c T) (no : ∀ vs H Q E, ¬ sp vs H Q E) : Cl CX P w K mg base k x sp := by
  obtain ⟨f, oc, od, kV, doc, pm, an, ct, osl, lk, hcd, hm, kp, hb⟩ := D.ex
  exact ⟨f, _, ps, ⟨fun vs H Q E h => absurd h (no vs H Q E), fun A outer s H args us vs Q E _ _ _ _ h => absurd h (no vs H Q E)⟩, hm, kp, hb⟩
theorem dg_mk {st : Stmt} {f : Addr} {h : Heap} {oc : Value} {od an : Option Addr} {osl : Array (Option Value)} {kV doc pm ct : Value} {ps : List Str} (X : K.In h) (G : h.Ns mainGlobals mg)
    (hb : ∀ (kV doc pm : Value) (an : Option Addr) (cdv ct : Value) (us : List Value), us.length = ps.length → bindArgs (PySem.W.fnOf x x (defArgs st) (defBody st) (defScope st) .none kV doc pm an cdv ct) ⟨us, []⟩ = pure (ps.zip us))
    (a : PySem.W.nsIn K mainGlobals x = some (some (.ref f))) (l : K.lookup f = some ⟨oc, od, .func (PySem.W.fnOf x x (defArgs st) (defBody st) (defScope st) .none kV doc pm an (.ref c) ct), osl⟩)
    (cd : PySem.W.codeIn K (.ref c) x = true) (k : PySem.W.keepIn K (.ref f) = true) : DfG K mg x st ps c T :=
  ⟨f, _, _, _, _, _, _, _, _, l, cd, PySem.W.mg_of X G a, k, Fun.binds (fun_mk l cd k) hb⟩
end
theorem tab_mk {K : PySem.W.Frag} {x : Str} {f : Addr} {oc : Value} {od : Option Addr} {fd : FuncData} {osl : Array (Option Value)} {c P : Addr} {e : Value} {dd : Option Addr} {vs : Array Value} {sl : Array (Option Value)} (a : PySem.W.nsIn K mainGlobals x = some (some (.ref f)))
    (l : K.lookup f = some ⟨oc, od, .func fd, osl⟩) (hc : fd.code = .ref c) (q : K.lookup c = some ⟨e, dd, .fields vs, sl⟩) (t : (vs[11]? : Option Value) = some (.ref P)) : PySem.W.tabIn K x = some (c, P) := by
  unfold PySem.W.tabIn
  rw [a]
  simp only [l, hc, q, t]
theorem tabB_of {base : Heap} {mg : Str → Option Value} {c P : Addr} (h : LamX.TabB base mg c P) : GxR.TabB base mg c P := ⟨h.code, h.bm, h.gP⟩
theorem tabG0 {H : Hp} {P : Addr} (h : H P = some (.tbl #[])) : GxR.TabG H P := ⟨#[], h, by first | exact TriplesOk.nil | trivial | (intro; simp) | decide⟩
/-- the end where defs hold generator expressions -/
theorem walkT {l : PySem.W.OpenLaw} {k : Nat} {q : Program} {loose : List Str} {XP : (Str → Option Value) → Heap → Prop} {YP : World → Heap → Prop} {d : DefRec} {K : Params → PySem.W.Frag} (xs : List Str)
    (hn : l.most = some 63) (hdf : d.params.defaults = []) (hr : Room k callerA) (hrec : ∀ x ∈ xs, ((recsOf q).find? fun e => e.name == x).isSome = true) (hY : ∀ (w : World) (h : Heap), YP w h → (K w.params).In h)
    (F : ∀ (w : World) (mg : Str → Option Value) (fa : Addr) (h : Heap), (K w.params).In h → h.Ns mainGlobals mg → mg d.name = some (.ref fa) →
      (∀ x ∈ xs, ∀ c P, PySem.W.tabIn (K w.params) x = some (c, P) → PySem.W.CodeHd h c P ∧ h.get? P = some { cls := .none, data := .fields #[] }) → LamX.LawAtS l w (K w.params) CX0 k 63 "_law_script" mg fa h) :
    PySem.W.WalkO q loose XP YP l.row.toRowW d [] (fun f vs => PySem.call f vs) := by
  refine Att.attach_callB hn hdf fun w s₀ s₁ mg mb fa o pm cd doc a vs ns G Y ho hd hcd hmg hobj hints hlen hbits hg => ?_
  have KX := hY w _ Y
  have tabs : ∀ x ∈ xs, ∀ c P, PySem.W.tabIn (K w.params) x = some (c, P) → PySem.W.CodeHd s₁.heap c P ∧ s₁.heap.get? P = some { cls := .none, data := .fields #[] } := fun x hx c P ht => by
    obtain ⟨dd, hdd⟩ := Option.isSome_iff_exists.mp (hrec x hx)
    exact PySem.W.tab_of G.T KX hdd ht
  obtain ⟨fd, cs, sp, hT, nT, C, hb, hsp, hF⟩ := F w mg fa _ KX G.T.g hmg tabs
  exact LamX.law_callTs KX G.T.g G.T.b G.T.builtins G.T.nolimit hg hT nT C G.T.bmain hobj hints (Nat.le_trans hlen (by decide)) hr hF hb (fun H hH hS => hsp H a ns hlen hbits hH hS) fun H e s' z => z
end Cs

namespace Cs
open PySem PySem.Spec PyProof.Rows L2 GenW
open Sem (wp)
/-! ### max of ints -/
def imx (m : Option Int) (y : V) : Option Int := match y with
  | .int i => match m with
    | none => some i
    | some z => some (if z < i then i else z)
  | _ => m
def imax (ys : List V) : Option Int := ys.foldl imx none
theorem imax_snoc (ys : List V) (y : V) : imax (ys ++ [y]) = imx (imax ys) y := by
  unfold imax; rw [List.foldl_append]; rfl
abbrev lsO (xs : Array Value) (c : Nat) : Obj := { cls := .type "list", dict := none, data := .seq xs c, slots := #[] }
def CoM : List V → Obj → Prop := fun ys o => ∃ (c : Nat), (ys = [] ∧ o = lsO #[] c) ∨ ∃ (i : Int) (t : Tok), imax ys = some i ∧ o = lsO #[.int i t, .int i t] c
abbrev eatM : Eat := fun _ y _ c => ∃ i, y = .int i ∧ c
theorem eatM_mono : EatMono eatM := fun ys y H c d cd ⟨i, a1, e⟩ => ⟨i, a1, cd e⟩
section
variable {X : Cx} {pins : List (Addr × Obj)} {σ : L2.St} {H H5 : Hp} {s s' sA : Shared} {a : Addr} {g : Nat} {fp : List Addr} {ys : List V} {Qe : List V → Hp → Prop}
theorem nap_set {S : Addr} {CO : List V → Obj → Prop} {xs zs : Array Value} {c : Nat} {tk : Nat} (hb : AllBare s.gens) (hS : s.heap.get? S = some (lsO xs c)) (h : ∀ c', CO ys (lsO zs c')) :
    Nap (some S) CO ys s { s with heap := s.heap.update S (Obj.mapSeq fun _ => zs), toks := tk } := by
  refine ⟨rfl, hb, fun b o hne e => (Heap.get?_update_other _ _ (fun h => hne (by rw [h]))).trans e, fun b e => ?_⟩
  cases e
  exact ⟨_, Heap.get?_update_self _ hS rfl, h _, fun v e => nomatch e⟩
theorem nap_same {S : Addr} {CO : List V → Obj → Prop} {o : Obj} (hb : AllBare s.gens) (hS : s.heap.get? S = some o) (h : CO ys o) (hc : ∀ v, o.data ≠ .cell v) : Nap (some S) CO ys s s :=
  ⟨rfl, hb, fun _ _ _ e => e, fun b e => by cases e; exact ⟨o, hS, h, hc⟩⟩
theorem gt_int {A : Around} {i m : Int} {t u : Tok} {Q : Value → Shared → Prop} {Ex : Value → Shared → Prop} (h : Q (.bool (decide (m < i))) s) : wpAny (model X.prog X.w) A (richCompare .Gt (.int i t) (.int m u)) Q Ex s := by
  have := CmpOf.ints_gt (prog := X.prog) (w := X.w) (A := A) (P := fun j v => ∃ t, v = .int (if j = 0 then i else m) t) (fun j => if j = 0 then i else m) (fun j v h => h)
  exact this 0 1 _ _ s Q Ex ⟨t, rfl⟩ ⟨u, rfl⟩ (by simpa using h)
theorem fit1 {S : Addr} {c0 : Nat} {s1 : Shared} (O : Out X (some S) CoM a g sA H5 fp ys H s1) (e2 : s1.heap.get? S = some (lsO #[] c0)) : ys = [] := by
  obtain ⟨_, o, e1, c, h⟩ := O.own S rfl
  rw [e2] at e1
  rcases h with ⟨h, _⟩ | ⟨i, t, _, rfl⟩
  · exact h
  · injection e1 with e1; injection e1 with _ _ e1 _; injection e1 with e1 _; injection e1 with e1; cases e1
theorem fit2 {S : Addr} {c0 : Nat} {s1 : Shared} {i0 : Int} {t0 : Tok} (O : Out X (some S) CoM a g sA H5 fp ys H s1) (e2 : s1.heap.get? S = some (lsO #[.int i0 t0, .int i0 t0] c0)) : imax ys = some i0 := by
  obtain ⟨_, o, e1, c, h⟩ := O.own S rfl
  rw [e2] at e1
  rcases h with ⟨_, rfl⟩ | ⟨i, t, h, rfl⟩
  · injection e1 with e1; injection e1 with _ _ e1 _; injection e1 with e1 _; injection e1 with e1; cases e1
  · injection e1 with e1; injection e1 with _ _ e1 _; injection e1 with e1 _; injection e1 with e1
    injection (List.cons.inj e1).1 with e3 _
    rw [h, e3]
theorem max_loopG {A : Around} {R : Result → Shared → Prop} {S : Addr} (hh : A.handled = none) (hd : A.depth < recursionLimit) (hSa : S ≠ a) (hSc : S ≠ cStatics)
    (hend : ∀ ys H s1 i t, Out X (some S) CoM a g sA H5 fp ys H s1 → imax ys = some i → Qe ys H → R (.ok (.ret (.int i t))) { s1 with heap := s1.heap.update S (Obj.mapSeq fun _ => #[]) }) (hne : ∀ H, ¬ Qe [] H) :
    ∀ (n : Nat) (s : Shared) (gs : GenState) (ys0 : List V) (o0 : Obj), s.heap.NoLimit → s.heap.IsGen a g → s.heap.get? S = some o0 → CoM ys0 o0 → s.gens[g]? = some gs →
      gs.Goes (model X.prog X.w) A.in1.in1 (RG X (some S) CoM Qe a g sA H5 fp) (YG X (some S) CoM eatM a g sA H5 fp) n (.send .none) (s.setGen g .running) →
      codeAny (model X.prog X.w) A (.builtin "max.loop" ⟨[.ref a, .none, .ref S], []⟩) R s := by
  have hname : (toString "max" ++ toString ".loop" : String) = "max.loop" := by decide
  intro n
  induction n with
  | zero =>
    intro s gs ys0 o0 hl hg hS hco hgs hgo
    obtain ⟨c0, hco⟩ := hco
    refine codeAny_builtin PySem.F.entry_max_loop ?_
    rw [Around.under_plainId PySem.F.plain_max_loop _]
    show wpAny _ A.in1 (seqItems? (.ref S) >>= _) _ _ s
    have hnone : (0 : Nat) = 0 → ∀ (ys : List V) (y : V) (v : Value) (H : Hp) (s1 : Shared) (C : Prop), RelV y v → eatM ys y H C → AllBare s1.gens → (∀ b, some S = some b → ∃ o, s1.heap.get? b = some o ∧ CoM ys o) → ∃ s', Nap (some S) CoM (ys ++ [y]) s1 s' := fun _ ys y v H s1 C r e hb ho => by
      obtain ⟨o, h1, c, h2⟩ := ho S rfl
      obtain ⟨i, rfl, _⟩ := e
      obtain ⟨z, hz⟩ : ∃ z, imax (ys ++ [.int i]) = some z := by
        rw [imax_snoc]; unfold imx
        cases imax ys <;> exact ⟨_, rfl⟩
      have hl : ∃ xs, o = lsO xs c := by
        rcases h2 with ⟨_, rfl⟩ | ⟨_, _, _, rfl⟩ <;> exact ⟨_, rfl⟩
      obtain ⟨xs, rfl⟩ := hl
      exact ⟨_, nap_set (zs := #[.int z 0, .int z 0]) (tk := 0) hb h1 fun c' => ⟨c', .inr ⟨z, 0, hz, rfl⟩⟩⟩
    rcases hco with ⟨rfl, rfl⟩ | ⟨i0, t0, hi0, rfl⟩
    · refine wpAny_bind (wpAny_seqItems hS rfl ?_)
      show wpAny _ A.in1 (tryCatch (pyNext (.ref a)) _ >>= _) _ _ s
      refine wpAny_bind (wpAny_tryCatch (next_gen (A := A.in1) hh hl hd hg hgs hgo (fun v y ys H s1 gs' hb hsz r O hsm e hg' => ?_) (fun ys H s1 O hsm q => ?_) eatM_mono hnone))
      · obtain ⟨i, rfl, m, h, e⟩ := e; cases h
      · have := fit1 O (hsm S _ rfl hS)
        subst this
        exact absurd q (hne _)
    · refine wpAny_bind (wpAny_seqItems hS rfl ?_)
      show wpAny _ A.in1 (tryCatch (pyNext (.ref a)) _ >>= _) _ _ s
      refine wpAny_bind (wpAny_tryCatch (next_gen (A := A.in1) hh hl hd hg hgs hgo (fun v y ys H s1 gs' hb hsz r O hsm e hg' => ?_) (fun ys H s1 O hsm q => ?_) eatM_mono hnone))
      · obtain ⟨i, rfl, m, h, e⟩ := e; cases h
      · have e2 := hsm S _ rfl hS
        show wpAny _ A.in1 (updateSeq S (fun _ => #[]) >>= _) _ _ _
        refine wpAny_bind ?_
        refine wpAny_updateSeq e2 rfl (wpAny_bind (wpAny_letGo (wpAny_pure ?_)))
        exact hend ys H s1 i0 t0 O (fit2 O e2) q
  | succ n ih =>
    intro s gs ys0 o0 hl hg hS hco hgs hgo
    obtain ⟨c0, hco⟩ := hco
    refine codeAny_builtin PySem.F.entry_max_loop ?_
    rw [Around.under_plainId PySem.F.plain_max_loop _]
    show wpAny _ A.in1 (seqItems? (.ref S) >>= _) _ _ s
    have again_ : ∀ {ys : List V} {H : Hp} {s1 : Shared} {gs' : GenState} {xs zs : Array Value} {c i : _} {z : Int} {t : Tok}, gs'.bare = true → Out X (some S) CoM a g sA H5 fp ys H s1 → s1.heap.get? S = some (lsO xs c) → (s1.setGen g gs').gens[g]? = some gs' → imax (ys ++ [V.int i]) = some z → zs = #[.int z t, .int z t] →
        (∀ s', Nap (some S) CoM (ys ++ [V.int i]) (s1.setGen g gs') s' → s'.gens[g]? = some gs' → s'.gens[g]? = some gs' ∧ gs'.Goes (model X.prog X.w) A.in1.in1 (RG X (some S) CoM Qe a g sA H5 fp) (YG X (some S) CoM eatM a g sA H5 fp) n (.send .none) (s'.setGen g .running)) →
        codeAny (model X.prog X.w) A (.builtin "max.loop" ⟨[.ref a, .none, .ref S], []⟩) R { s1.setGen g gs' with heap := s1.heap.update S (Obj.mapSeq fun _ => zs) } := fun {ys H s1 gs' xs zs c i z t} hb O e2 hg' hz hzs e => by
      have O' := O.kept (s' := s1.setGen g gs') rfl (allBare_setGen O.bare hb) fun _ _ z => z
      have kpn : ∀ b o, b ≠ S → s1.heap.get? b = some o → (s1.heap.update S (Obj.mapSeq (fun _ => zs))).get? b = some o := fun b o hbS e => (Heap.get?_update_other _ _ (Ne.symm hbS)).trans e
      have co : ∀ c', CoM (ys ++ [V.int i]) (lsO zs c') := fun c' => ⟨c', .inr ⟨z, t, hz, by rw [hzs]⟩⟩
      have nap := nap_set (s := s1.setGen g gs') (zs := zs) (tk := s1.toks) O'.bare e2 co
      refine ih _ gs' (ys ++ [V.int i]) _ ?_ ?_ (Heap.get?_update_self _ e2 rfl) (co _) hg' (e _ nap hg').2
      · obtain ⟨mc, hns, hnn⟩ := O'.lim
        exact ⟨mc, hns.at' fun o e => kpn _ o (Ne.symm hSc) e, hnn⟩
      · obtain ⟨o, nm, qn, ho, r⟩ := O'.gen
        exact ⟨o, nm, qn, kpn a o (Ne.symm hSa) ho, r⟩
    rcases hco with ⟨rfl, rfl⟩ | ⟨i0, t0, hi0, rfl⟩
    · refine wpAny_bind (wpAny_seqItems hS rfl ?_)
      show wpAny _ A.in1 (tryCatch (pyNext (.ref a)) _ >>= _) _ _ s
      refine wpAny_bind (wpAny_tryCatch (next_gen (A := A.in1) hh hl hd hg hgs hgo (fun v y ys H s1 gs' hb hsz r O hsm e hg' => ?_) (fun ys H s1 O hsm q => ?_) eatM_mono fun h => nomatch h))
      · obtain ⟨i, rfl, m, h, e⟩ := e
        cases h
        obtain ⟨tk, rfl⟩ := r
        have e2 := hsm S _ rfl hS
        have := fit1 O e2
        subst this
        show wpAny _ A.in1 (updateSeq S (fun _ => #[.int i tk, .int i tk]) >>= _) _ _ _
        refine wpAny_bind ?_
        refine wpAny_updateSeq (s := s1.setGen g gs') e2 rfl ?_
        rw [hname]
        exact wpAny_pure ⟨plainId_quiet PySem.F.plain_max_loop _, again_ (z := i) hb O e2 hg' rfl rfl e⟩
      · have := fit1 O (hsm S _ rfl hS)
        subst this
        exact absurd q (hne _)
    · refine wpAny_bind (wpAny_seqItems hS rfl ?_)
      show wpAny _ A.in1 (tryCatch (pyNext (.ref a)) _ >>= _) _ _ s
      refine wpAny_bind (wpAny_tryCatch (next_gen (A := A.in1) hh hl hd hg hgs hgo (fun v y ys H s1 gs' hb hsz r O hsm e hg' => ?_) (fun ys H s1 O hsm q => ?_) eatM_mono fun h => nomatch h))
      · obtain ⟨i, rfl, m, h, e⟩ := e
        cases h
        obtain ⟨tk, rfl⟩ := r
        have e2 := hsm S _ rfl hS
        have hz := fit2 O e2
        have hz2 : imax (ys ++ [.int i]) = some (if i0 < i then i else i0) := by rw [imax_snoc, hz]; rfl
        show wpAny _ A.in1 (tryCatch (holding [.int i tk, .int i tk] (richCompare .Gt (.int i tk) (.int i0 t0) >>= _)) _ >>= _) _ _ _
        refine wpAny_bind (wpAny_tryCatch (wpAny_holding (wpAny_bind (gt_int ?_))))
        refine wpAny_bind (wpAny_holding (wpAny_truthy_bool ?_))
        refine wpAny_bind (wpAny_letGo (wpAny_pure ?_))
        by_cases hlt : i0 < i
        · rw [decide_eq_true hlt]
          simp only [if_true]
          rw [if_pos hlt] at hz2
          refine wpAny_bind ?_
          refine wpAny_updateSeq (s := s1.setGen g gs') e2 rfl (wpAny_bind (wpAny_letGo ?_))
          rw [hname]
          exact wpAny_pure ⟨plainId_quiet PySem.F.plain_max_loop _, again_ (z := i) hb O e2 hg' hz2 rfl e⟩
        · rw [decide_eq_false hlt]
          simp only [Bool.false_eq_true, if_false]
          rw [if_neg hlt] at hz2
          refine wpAny_bind (wpAny_letGo ?_)
          rw [hname]
          have O' := O.kept (s' := s1.setGen g gs') rfl (allBare_setGen O.bare hb) fun _ _ z => z
          have co : CoM (ys ++ [V.int i]) (lsO #[.int i0 t0, .int i0 t0] c0) := ⟨c0, .inr ⟨i0, t0, hz2, rfl⟩⟩
          exact wpAny_pure ⟨plainId_quiet PySem.F.plain_max_loop _, ih _ gs' (ys ++ [.int i]) _ O'.lim O'.gen e2 co hg' (e _ (nap_same O'.bare e2 co fun v e => nomatch e) hg').2⟩
      · have e2 := hsm S _ rfl hS
        show wpAny _ A.in1 (updateSeq S (fun _ => #[]) >>= _) _ _ _
        refine wpAny_bind ?_
        refine wpAny_updateSeq e2 rfl (wpAny_bind (wpAny_letGo (wpAny_pure ?_)))
        exact hend ys H s1 i0 t0 O (fit2 O e2) q
end
end Cs
namespace Cs
open PySem PySem.Spec PyProof.Rows L2 GenW
open Sem (wp)
section
variable {X : Cx}
/-- max(elt for tg in iter if ..), ints handed out, one at least -/
def tMaxG (P : Addr) (wi : TI) (g : TG) (tt : L2.TT) (te : TE) (vs : List Nat) : TE := fun σ H Q => tGen P eatM (fun ys H' => ys ≠ [] ∧ ∀ z, imax ys = some z → Q (.int z) H') wi g tt te vs σ H
theorem pe_maxG {c P : Addr} {elt tg iter : Expr} {ifs : List Expr} {scope : Scope} {own : List (Str × Nat)} {p pos gpos : Pos} {wi : TI} {g : TG} {tt : L2.TT} {te : TE} {k : Nat}
    (hr : Room (k + 3) X.A) (hgl : Gl X "max") (hm : X.mg "max" = none) (hc : X.calm = true) (hN : X.N.Nodup) (TB : GxR.TabB X.base X.mg c P) (hcode : X.env.code = .ref c) (S : GSc X.N X.env.scope scope own) (hi : PI X tg iter wi)
    (hg : ∀ (Ag : Around) (s : Shared) (H : Hp) (cl : List (Str × Addr)) (C : Addr) (code : Value) (fp : List Addr) (pn : List (Addr × Obj)), Room k Ag → PG (gcx X Ag s H scope cl C code fp pn) tg g)
    (ht : ∀ (Ag : Around) (s : Shared) (H : Hp) (cl : List (Str × Addr)) (C : Addr) (code : Value) (fp : List Addr) (pn : List (Addr × Obj)), Room k Ag → PTs (gcx X Ag s H scope cl C code fp pn) ifs tt)
    (he : ∀ (Ag : Around) (s : Shared) (H : Hp) (cl : List (Str × Addr)) (C : Addr) (code : Value) (fp : List Addr) (pn : List (Addr × Obj)), Room k Ag → PE (gcx X Ag s H scope cl C code fp pn) elt te)
    (hs : ∀ v, genFold iter X.env v = pure v := by intro _; rfl) (hb : bootBuiltins "max" = some (.builtin "max") := by decide +kernel)
    (hst : starEach [.GeneratorExp elt [⟨tg, iter, ifs, 0⟩] scope gpos] X.env = (false, eval (.GeneratorExp elt [⟨tg, iter, ifs, 0⟩] scope gpos) X.env) :: starEach [] X.env := by rfl) :
    PE X (.Call (.Name "max" p) [.GeneratorExp elt [⟨tg, iter, ifs, 0⟩] scope gpos] [] pos) (tMaxG P wi g tt te (own.map (·.2))) := by
  have hname : (toString "max" ++ toString ".loop" : String) = "max.loop" := by decide
  refine ⟨fun pins s σ H Q I h => ?_⟩
  refine wpAny_Call_Name_kw (ld_blt I hgl hm hb ?_)
  refine PyProof.Rows.callWith_builtin1 ?_ hst (by rfl)
  rw [hst]
  show wpAny _ _ (spliced ((false, eval (.GeneratorExp elt [⟨tg, iter, ifs, 0⟩] scope gpos) X.env) :: backTo pos (starEach [] X.env))) _ _ s
  refine Calls.spliced_cons (thn (gen_make (hr.mono (by omega)) hc hN TB hcode S hi hg ht he hs eatM_mono I h) fun u s5 hG => ?_)
  refine Calls.spliced_nil ?_
  obtain ⟨a, gg, cc, H5, fp, sA, n, rfl, I5, hf, h1, h2, h3, h4, h5, h6, h7, h8, wake⟩ := hG
  have hSa : s5.heap.objs.size ≠ a := Nat.ne_of_gt h2
  have hcl : cStatics < s5.heap.objs.size := let ⟨_, hn, _⟩ := h7; hn.lt
  refine call_function_tree PySem.F.kind_max PySem.F.plain_max PySem.F.entry_max (PySem.F.args_max1 _) ?_
  show wpAny _ X.A.in1 (Builtin.Builtins.bindParams "max" ["key", "default"] 0 ⟨[], []⟩ >>= _) _ _ s5
  refine wpAny_bind (wpAny_of_eq (show Builtin.Builtins.bindParams "max" ["key", "default"] 0 ⟨[], []⟩ = pure [none, none] from rfl) ?_)
  refine wpAny_bind (wpAny_pure ?_)
  refine wpAny_bind (wpAny_pyIter_gen h3 ?_)
  refine wpAny_bind (wpAny_newObj_type ?_)
  rw [hname]
  have k1 : ∀ b o, s5.heap.get? b = some o → (s5.heap.push { cls := .type "list", data := .seq ([] : List Value).toArray }).get? b = some o := fun b o e => Heap.get?_push_of_some _ e
  have hS : (s5.heap.push { cls := .type "list", data := .seq ([] : List Value).toArray }).get? s5.heap.objs.size = some { cls := .type "list", data := .seq ([] : List Value).toArray } := Heap.get?_push_size _ rfl
  refine wpAny_pure ⟨plainId_quiet PySem.F.plain_max_loop _, max_loopG (X := X) (H5 := H5) (sA := sA) (fp := fp) (Qe := fun ys H' => ys ≠ [] ∧ ∀ z, imax ys = some z → Q (.int z) H') hr.hd (by have := hr.dp; omega) hSa (Nat.ne_of_gt hcl) (fun ys H' s1 i t O hi hq => ?_) (fun H' h => h.1 rfl) n { s5 with heap := s5.heap.push { cls := .type "list", data := .seq ([] : List Value).toArray } } _ [] _ (h7.keeps k1) (h3.keeps k1) hS ⟨0, .inl ⟨rfl, rfl⟩⟩ h4 ⟨rfl, ?_⟩⟩
  · have I1 := O.back I5 hf
    have hSn := (O.own _ rfl).1
    have hle : sA.heap.objs.size ≤ s5.heap.objs.size := Nat.le_trans h1 (Nat.le_of_lt h2)
    obtain ⟨_, f1, _, f3, f4, f5⟩ := I5.fpOk (H' := H') hle hSn
    exact ⟨.int i, H', I1.turned (t' := s1.toks) (fun b o hb e => (Heap.get?_update_other _ _ (Ne.symm hb)).trans e) hSn f1 f3 f4 f5, ⟨t, rfl⟩, hq.2 i hi⟩
  · exact wake X.A.in1.in1 (some s5.heap.objs.size) CoM _ (Room.in1 (Room.in1 hr)) I5.ok.frames (fun b e => by cases e; exact ⟨Nat.le_refl _, _, hS, ⟨0, .inl ⟨rfl, rfl⟩⟩, fun v e => nomatch e⟩) k1 rfl (allBare_setGen (s := { s5 with heap := _ }) h6 rfl)
end
end Cs

namespace Cs
open PySem PySem.Spec PyProof.Rows L2
/-! ### the forms one uses -/
theorem gt_tup {K : PySem.W.Frag} {a : Addr} {xs : List V} {E : Eat} {Qe : List V → Hp → Prop} {g : TG} {tt : L2.TT} {te : TE} {vs : List Nat} {σ : L2.St} {H : Hp} (Pv : Nat → List V → Hp → Prop) (h0 : Pv 0 [] H) (hl : ∀ i ys H, i ≤ xs.length → Pv i ys H → SqT K H a xs)
    (hs : ∀ i x ys H, xs[i]? = some x → Pv i ys H → g x (wipe σ vs) H fun σ2 H2 => wipe σ2 vs = wipe σ vs ∧ tt σ2 H2 fun b H3 => if b = true then te σ2 H3 fun y H4 => E ys y H4 (Pv (i + 1) (ys ++ [y]) H4) else Pv (i + 1) ys H3)
    (hd : ∀ ys H, Pv xs.length ys H → Qe ys H) : ∃ W, (∃ m, W 0 m [] H) ∧ GTurn E Qe (Itt K a) g tt te (wipe σ vs) vs W := by
  refine ⟨fun i m ys H => m = xs.length - i ∧ i ≤ xs.length ∧ Pv i ys H, ⟨xs.length, by simp, Nat.zero_le _, h0⟩, ?_⟩
  rintro i m ys H ⟨rfl, hi, p⟩
  have q := hl i ys H hi p
  by_cases hlt : i < xs.length
  · refine .inr ⟨⟨xs, xs[i], q, by simp [hlt]⟩, Pv (i + 1), fun ys' H' p' => ⟨xs.length - (i + 1), by omega, rfl, hlt, p'⟩, fun x H' y => ?_⟩
    obtain ⟨e, y⟩ := y
    subst e
    exact hs i x ys _ (y xs q) p
  · have e : i = xs.length := by omega
    subst e
    exact .inl ⟨⟨xs, q, Nat.le_refl _⟩, hd ys H p⟩
theorem gt_list {K : PySem.W.Frag} {a : Addr} {xs : List V} {E : Eat} {Qe : List V → Hp → Prop} {g : TG} {tt : L2.TT} {te : TE} {vs : List Nat} {σ : L2.St} {H : Hp} (Pv : Nat → List V → Hp → Prop) (h0 : Pv 0 [] H) (hl : ∀ i ys H, i ≤ xs.length → Pv i ys H → SqL K H a xs)
    (hs : ∀ i x ys H, xs[i]? = some x → Pv i ys H → g x (wipe σ vs) H fun σ2 H2 => wipe σ2 vs = wipe σ vs ∧ tt σ2 H2 fun b H3 => if b = true then te σ2 H3 fun y H4 => E ys y H4 (Pv (i + 1) (ys ++ [y]) H4) else Pv (i + 1) ys H3)
    (hd : ∀ ys H, Pv xs.length ys H → Qe ys H) : ∃ W, (∃ m, W 0 m [] H) ∧ GTurn E Qe (Itl K a) g tt te (wipe σ vs) vs W := by
  refine ⟨fun i m ys H => m = xs.length - i ∧ i ≤ xs.length ∧ Pv i ys H, ⟨xs.length, by simp, Nat.zero_le _, h0⟩, ?_⟩
  rintro i m ys H ⟨rfl, hi, p⟩
  have q := hl i ys H hi p
  by_cases hlt : i < xs.length
  · refine .inr ⟨⟨xs, xs[i], q, by simp [hlt]⟩, Pv (i + 1), fun ys' H' p' => ⟨xs.length - (i + 1), by omega, rfl, hlt, p'⟩, fun x H' y => ?_⟩
    obtain ⟨e, y⟩ := y
    subst e
    exact hs i x ys _ (y xs q) p
  · have e : i = xs.length := by omega
    subst e
    exact .inl ⟨⟨xs, q, Nat.le_refl _⟩, hd ys H p⟩
end Cs
set_option Elab.async false
set_option linter.all false
set_option maxRecDepth 100000
set_option maxHeartbeats 2000000
namespace Cs
open PySem PySem.Spec PyProof.Rows L2
def top (i : Nat) : Stmt := PySem.Challenge.pw_conceptscript_k10_formulas_are_drawn.main.body.getD i (.Pass ⟨0, 0, 0, 0⟩)
abbrev s_DrawingFault___init__ : Stmt := inClass (top 2) 0
abbrev s_under : Stmt := top 6
abbrev s_draw : Stmt := top 7
abbrev s_width : Stmt := top 8
abbrev s_height : Stmt := top 9
abbrev s_Reader___init__ : Stmt := inClass (top 10) 0
abbrev s_Reader_sign : Stmt := inClass (top 10) 1
abbrev s_Reader_read_before : Stmt := inClass (top 10) 2
abbrev s_Reader_read_row : Stmt := inClass (top 10) 3
abbrev s_Reader_formula : Stmt := inClass (top 10) 4
abbrev s_Reader_read : Stmt := inClass (top 10) 5
abbrev s_read_drawing : Stmt := top 11
abbrev s_Lcell : Stmt := top 13
abbrev s_Ldigits : Stmt := top 14
abbrev s_Lbox : Stmt := top 15
abbrev s_Ldraw : Stmt := top 16
abbrev s_Lput : Stmt := top 17
abbrev s_Lany : Stmt := top 18
abbrev s_Llettered : Stmt := top 19
abbrev s_Lunder : Stmt := top 20
abbrev s_Ldrawing : Stmt := top 21
abbrev s_Lsame : Stmt := top 22
abbrev s_law : Stmt := top 23
structure Bn (mg : Str → Option Value) : Prop where
  bool : mg "bool" = none
  int : mg "int" = none
  isinstance : mg "isinstance" = none
  len : mg "len" = none
  max : mg "max" = none
  range : mg "range" = none
  str : mg "str" = none
  tuple : mg "tuple" = none
  g_SMALL : ∃ u, mg "SMALL" = some u ∧ RelV (.str "abcdefghijklmnopqrstuvwxyz") u
  g_DIGITS : ∃ u, mg "DIGITS" = some u ∧ RelV (.str "0123456789") u
section
variable {P : Program} {w : World} {K : PySem.W.Frag} {mg : Str → Option Value} {base : Heap}
abbrev N_Lcell : List Str := ["_law_script", "_law_k"]
theorem sc_Lcell : FnScope N_Lcell ["_law_script", "_law_k"] (defScope s_Lcell) := ⟨rfl, rfl, rfl, by decide +kernel, rfl, by decide +kernel, by decide +kernel⟩
def sp_Lcell (K : PySem.W.Frag) : Sp := fun vs H Q _ => ∃ (a : Addr) (ns : List Int) (k : Int), vs = [.ref a, .int k] ∧ SqL K H a (ns.map V.int) ∧ 0 ≤ k ∧ ∀ i : Int, Q (.int i) H
theorem ok_Lcell (B : Bn mg) (D : Df K mg "_law_cell" s_Lcell ["_law_script", "_law_k"]) : Cl CX0 P w K mg base 1 "_law_cell" (sp_Lcell K) := by
  refine D.ok sc_Lcell (fun vs H Q E h => ?_) (fun f cdv A outer s H vs Q E hr h => ?_)
  · obtain ⟨a, ns, k, rfl, _⟩ := h
    rfl
  obtain ⟨a, ns, k, rfl, hS, h0, q⟩ := h
  refine ⟨_, pss_cons (ps_if (pt_cmpR op_lt (pv 1) (pe_callB call_len_seq (by rfl) B.len PySem.boot_len (pa_cons (pv 0) pa_nil)) (nomark _)) (pss_one (ps_ret (pe_ix ix_list (pv 0) (pv 1) (fun _ _ => rfl)))) pss_nil) (pss_one (ps_ret pe_int)), ?_⟩
  refine ⟨_, rfl, _, rfl, a, _, rfl, .inl hS, _, _, rfl, rfl, _, rfl, ?_⟩
  refine ite2 (fun c => ?_) (fun c => ?_)
  · have c' := of_decide_eq_true c
    rw [List.length_map] at c'
    obtain ⟨j, rfl⟩ : ∃ j : Nat, k = (j : Int) := ⟨k.toNat, by omega⟩
    have hj : j < ns.length := by omega
    exact ⟨_, rfl, _, rfl, a, _, _, _, rfl, rfl, hS, atI_nat (by rw [List.getElem?_map, List.getElem?_eq_getElem hj]; rfl), q _⟩
  · exact q 0
abbrev N_Ldraw : List Str := ["_law_box_here", "_law_many", "_law_at"]
theorem sc_Ldraw : FnScope N_Ldraw ["_law_box_here", "_law_many"] (defScope s_Ldraw) := ⟨rfl, rfl, rfl, by decide +kernel, rfl, by decide +kernel, by decide +kernel⟩
def sp_Ldraw : Sp := fun vs H Q _ => ∃ (b : Addr) (m : Int), vs = [.ref b, .int m] ∧ 0 < m ∧ Bx H b ∧ ∀ (r : Int) (H' : Hp), 0 ≤ r → r < m → Gx [b] H H' → Bx H' b → Q (.int r) H'
theorem ok_Ldraw (B : Bn mg) (D : Df K mg "_law_draw" s_Ldraw ["_law_box_here", "_law_many"]) : Cl CX0 P w K mg base 1 "_law_draw" sp_Ldraw := by
  refine D.ok sc_Ldraw (fun vs H Q E h => ?_) (fun f cdv A outer s H vs Q E hr h => ?_)
  · obtain ⟨b, m, rfl, _⟩ := h
    rfl
  obtain ⟨b, m, rfl, hm, ⟨dg, at_, ds, hb, h0, hd, hl, hds, hne⟩, q⟩ := h
  refine ⟨_, (pss_cons (ps_set (i := 2) sc_Ldraw.nd rfl (by first | exact Or.inl rfl | exact Or.inr rfl) (pe_ix ix_list (pv 0) pe_int (fun _ _ => rfl)))
  (pss_cons (ps_asg (pe_op op_add (pv 2) pe_int) (pg_sub (pv 0) pe_int set_list))
  (pss_cons (ps_if (pt_cmpR op_lt (pv 2) (pe_callB call_len_seq (by rfl) B.len PySem.boot_len (pa_cons (pe_ix ix_list (pv 0) pe_int (fun _ _ => rfl)) pa_nil)) (nomark _))
    (pss_one (ps_ret (pe_op op_mod (pe_callTy call_int1 (by rfl) B.int (by decide +kernel) (pa_cons (pe_ix ix_list (pe_ix ix_list (pv 0) pe_int (fun _ _ => rfl)) (pv 2) (fun _ _ => rfl)) pa_nil)) (pv 1))))
    pss_nil)
  (pss_one (ps_ret pe_int))))), ?_⟩
  refine ⟨_, rfl, b, _, _, _, rfl, rfl, SqL.of hb, rfl, ?_⟩
  refine ⟨_, rfl, _, _, rfl, rfl, _, rfl, b, _, _, 1, rfl, rfl, hb, rfl, ?_⟩
  have hb' : upd H b (.lst ([.ref dg, .int at_].set 1 (.int (at_ + 1)))) b = some (.lst [.ref dg, .int (at_ + 1)]) := upd_same
  have g : Gx [b] H (upd H b (.lst ([.ref dg, .int at_].set 1 (.int (at_ + 1))))) := Gx.set hb rfl
  have hd' := g.lst hd (by simp [hne])
  have bx : Bx (upd H b (.lst ([.ref dg, .int at_].set 1 (.int (at_ + 1))))) b := ⟨dg, at_ + 1, ds, hb', by omega, hd', hl, hds, hne⟩
  refine ⟨_, rfl, _, rfl, b, _, _, _, rfl, rfl, SqL.of hb', rfl, dg, _, rfl, .inl (SqL.of hd'), _, _, rfl, rfl, _, rfl, ?_⟩
  refine ite2 (fun c => ?_) (fun c => ?_)
  · have c' := of_decide_eq_true c
    rw [List.length_map] at c'
    obtain ⟨j, rfl⟩ : ∃ j : Nat, at_ = (j : Int) := ⟨at_.toNat, by omega⟩
    have hj : j < ds.length := by omega
    have hdj := hds _ (List.getElem_mem hj)
    refine ⟨_, rfl, b, _, _, _, rfl, rfl, SqL.of hb', rfl, _, rfl, dg, _, _, _, rfl, rfl, SqL.of hd', atI_nat (by rw [List.getElem?_map, List.getElem?_eq_getElem hj]; rfl), .inl ⟨_, rfl, _, rfl, _, _, rfl, rfl, hm, ?_⟩⟩
    exact q _ _ (Int.emod_nonneg _ (by omega)) (Int.emod_lt_of_pos _ hm) g bx
  · exact q 0 _ (by omega) hm g bx
/-- digits: each from 0 to 999, not more than n -/
def Dg (ds : List Int) (n : Nat) : Prop := ds.length ≤ n ∧ ∀ d ∈ ds, 0 ≤ d ∧ d < 1000
theorem Dg.snoc {ds : List Int} {n : Nat} (h : Dg ds n) {z : Int} : Dg (ds ++ [z % 1000]) (n + 1) :=
  ⟨by rw [List.length_append, List.length_singleton]; exact Nat.succ_le_succ h.1, fun d hd => by
    rcases List.mem_append.mp hd with m | m
    · exact h.2 d m
    · rw [List.mem_singleton.mp m]; exact ⟨Int.emod_nonneg _ (by omega), Int.emod_lt_of_pos _ (by omega)⟩⟩
theorem Dg.mono {ds : List Int} {n m : Nat} (h : Dg ds n) (l : n ≤ m) : Dg ds m := ⟨Nat.le_trans h.1 l, h.2⟩
/-- a list of digits that was made here, all else as it was -/
structure Dl (H0 H : Hp) (d : Addr) (n : Nat) : Prop where
  gr : Gr H0 H
  ex : ∃ ds, H d = some (.lst (ds.map V.int)) ∧ Dg ds n
theorem Dl.snoc {H0 H : Hp} {d : Addr} {n : Nat} (h : Dl H0 H d n) (hn : H0 d = none) {ds : List Int} (e : H d = some (.lst (ds.map V.int))) (hd : Dg ds n) {z : Int} : Dl H0 (upd H d (.lst (ds.map V.int ++ [V.int (z % 1000)]))) d (n + 1) :=
  ⟨h.gr.drop (Gx.set e rfl) (fun a m => by rw [List.mem_singleton.mp m]; exact .inr hn), ds ++ [z % 1000], by rw [upd_same, List.map_append]; rfl, hd.snoc⟩
theorem Dl.mono {H0 H : Hp} {d : Addr} {n m : Nat} (h : Dl H0 H d n) (l : n ≤ m) : Dl H0 H d m := ⟨h.gr, h.ex.imp fun _ q => ⟨q.1, q.2.mono l⟩⟩
abbrev N_Ldigits : List Str := ["_law_script", "_law_first", "_law_last", "_law_digits_here", "_law_k", "_law_cell_here", "_law_turn", "_law_seed"]
theorem sc_Ldigits : FnScope N_Ldigits ["_law_script", "_law_first", "_law_last"] (defScope s_Ldigits) := ⟨rfl, rfl, rfl, by decide +kernel, rfl, by decide +kernel, by decide +kernel⟩
def sp_Ldigits (K : PySem.W.Frag) : Sp := fun vs H Q _ => ∃ (a : Addr) (ns : List Int) (f l : Int), vs = [.ref a, .int f, .int l] ∧ SqL K H a (ns.map V.int) ∧ 0 ≤ f ∧ f ≤ 63 ∧ 0 ≤ l ∧ l ≤ 63 ∧
  ∀ (d : Addr) (H' : Hp), H d = none → Dl H H' d 3780 → Q (.ref d) H'
theorem ok_Ldigits (B : Bn mg) (D : Df K mg "_law_digits" s_Ldigits ["_law_script", "_law_first", "_law_last"]) (c_Lcell : Cl CX0 P w K mg base 1 "_law_cell" (sp_Lcell K)) : Cl CX0 P w K mg base 2 "_law_digits" (sp_Ldigits K) := by
  refine D.ok sc_Ldigits (fun vs H Q E h => ?_) (fun f cdv A outer s H vs Q E hr h => ?_)
  · obtain ⟨a, ns, f, l, rfl, _⟩ := h
    rfl
  obtain ⟨a, ns, f, l, rfl, hS, f0, f1, l0, l1, q⟩ := h
  refine ⟨_, (pss_cons (ps_set (i := 3) sc_Ldigits.nd rfl (by first | exact Or.inl rfl | exact Or.inr rfl) (pe_lst pa_nil))
  (pss_cons (ps_for PassesOwn.never rfl (pi_range2 (by rfl) B.range (pa_cons (pv 1) (pa_cons (pv 2) pa_nil))) (pg_name (i := 4) sc_Ldigits.nd rfl (by first | exact Or.inl rfl | exact Or.inr rfl))
    (pss_cons (ps_set (i := 5) sc_Ldigits.nd rfl (by first | exact Or.inl rfl | exact Or.inr rfl) (pc c_Lcell hr (by omega) rfl ps0 (pa_cons (pv 0) (pa_cons (pv 4) pa_nil))))
  (C8.pss_cut (ps_if (pt_cmpR op_lt (pv 5) pe_int (nomark _))
    (pss_one (ps_set (i := 5) sc_Ldigits.nd rfl (by first | exact Or.inl rfl | exact Or.inr rfl) (pe_op op_sub pe_int (pe_op op_mul pe_int (pv 5)))))
    pss_nil)
  (pss_one (ps_if (pt_cmpR op_ge (pv 5) (pe_op op_pow pe_int pe_int) (nomark _))
    (pss_one (ps_for PassesOwn.never rfl (pi_range1 (by rfl) B.range (pa_cons pe_int pa_nil)) (pg_name (i := 6) sc_Ldigits.nd rfl (by first | exact Or.inl rfl | exact Or.inr rfl))
    (pss_one (ps_if (pt_cmpR op_gt (pv 5) pe_int (nomark _))
    (pss_cons (ps_expr (pe_bm PySem.F.plainAttrs_list PySem.F.slot_list_append PySem.F.type_list_append mt_append (pv 3) (pa_cons (pe_op op_mod (pe_callTy call_int1 (by rfl) B.int (by decide +kernel) (pa_cons (pv 5) pa_nil)) pe_int) pa_nil)))
  (pss_one (ps_set (i := 5) sc_Ldigits.nd rfl (by first | exact Or.inl rfl | exact Or.inr rfl) (pe_op op_fdiv (pv 5) pe_int))))
    pss_nil))))
    (pss_cons (ps_set (i := 7) sc_Ldigits.nd rfl (by first | exact Or.inl rfl | exact Or.inr rfl) (pe_op op_mod (pe_callTy call_int1 (by rfl) B.int (by decide +kernel) (pa_cons (pe_op op_add (pe_op op_add (pe_op op_mul (pv 5) pe_int) (pe_op op_mul (pv 4) pe_int)) pe_int) pa_nil)) pe_int))
  (pss_one (ps_for PassesOwn.never rfl (pi_range1 (by rfl) B.range (pa_cons pe_int pa_nil)) (pg_name (i := 6) sc_Ldigits.nd rfl (by first | exact Or.inl rfl | exact Or.inr rfl))
    (pss_cons (ps_set (i := 7) sc_Ldigits.nd rfl (by first | exact Or.inl rfl | exact Or.inr rfl) (pe_op op_mod (pe_callTy call_int1 (by rfl) B.int (by decide +kernel) (pa_cons (pe_op op_add (pe_op op_add (pe_op op_mul (pv 7) pe_int) (pe_op op_mul pe_int (pv 6))) pe_int) pa_nil)) pe_int))
  (pss_one (ps_expr (pe_bm PySem.F.plainAttrs_list PySem.F.slot_list_append PySem.F.type_list_append mt_append (pv 3) (pa_cons (pe_op op_mod (pe_callTy call_int1 (by rfl) B.int (by decide +kernel) (pa_cons (pe_op op_fdiv (pv 7) pe_int) pa_nil)) pe_int) pa_nil)))))))))))))
  (pss_one (ps_ret (pv 3))))), ?_⟩
  refine ⟨(by show 0 ≤ sizeLine; decide), fun d hd => ?_⟩
  refine ⟨_, rfl, _, rfl, f, l, rfl, ⟨by omega, by omega, by omega, by omega⟩, for_range (lo := f) (n := (l - f).toNat) (fun i σ H2 => ∃ v4 v5 v6 v7, σ = [some (.ref a), some (.int f), some (.int l), some (.ref d), v4, v5, v6, v7] ∧ Dl H H2 d (60 * i)) ⟨none, none, none, none, rfl, ⟨Gx.new hd, [], upd_same, Nat.zero_le _, fun d h => nomatch h⟩⟩ ?_ ?_⟩
  · rintro i σ H2 hi ⟨v4, v5, v6, v7, rfl, W⟩
    have i63 : i < 63 := by omega
    refine ⟨_, rfl, _, rfl, a, ns, f + (i : Int), rfl, W.gr.sqG hS, by omega, fun c => ?_⟩
    refine ⟨fun σ' H' => H' = H2 ∧ ∃ c : Int, σ' = [some (.ref a), some (.int f), some (.int l), some (.ref d), some (.int (f + (i : Int))), some (.int c), v6, v7], ?_, ?_⟩
    · refine ⟨_, rfl, _, _, rfl, rfl, _, rfl, ?_⟩
      refine ite2 (fun _ => ?_) (fun _ => ?_)
      · exact ⟨_, rfl, _, _, rfl, rfl, .inl ⟨by decide, by decide⟩, _, _, rfl, rfl, rfl, _, rfl⟩
      · exact ⟨rfl, _, rfl⟩
    · rintro σ' H' ⟨rfl, c, rfl⟩
      refine ⟨_, rfl, _, _, rfl, rfl, ⟨by decide, by decide, by decide⟩, _, _, rfl, rfl, _, rfl, ?_⟩
      refine ite2 (fun _ => ?_) (fun _ => ?_)
      · refine ⟨60, rfl, by decide, by decide, for_range (lo := 0) (n := 60) (fun j σ H3 => ∃ v5 v6, σ = [some (.ref a), some (.int f), some (.int l), some (.ref d), some (.int (f + (i : Int))), some (.int v5), v6, v7] ∧ Dl H H3 d (60 * i + j)) ⟨c, v6, rfl, W⟩ ?_ ?_⟩
        · rintro j σ H3 hj ⟨v5, v6, rfl, W3⟩
          obtain ⟨ds, e, hds⟩ := W3.ex
          refine ⟨_, rfl, _, _, rfl, rfl, _, rfl, ?_⟩
          refine ite2 (fun _ => ?_) (fun _ => ?_)
          · refine ⟨_, rfl, .inl ⟨rfl, _, .inl (.inl e)⟩, _, rfl, .inl ⟨_, rfl, _, _, rfl, rfl, (by show (0 : Int) < 1000; decide), d, _, _, rfl, rfl, e, ?_, ?_⟩⟩
            · rw [List.length_map]; exact szlt hds.1 (by omega)
            · exact ⟨_, rfl, _, _, rfl, rfl, ⟨by decide, by decide⟩, _, _, rfl, W3.snoc hd e hds⟩
          · exact ⟨_, _, rfl, W3.mono (Nat.le_succ _)⟩
        · rintro σ H3 ⟨v5, v6, rfl, W3⟩
          exact ⟨_, _, _, _, rfl, W3.mono (by omega)⟩
      · refine ⟨_, rfl, _, _, rfl, rfl, .inr ⟨by decide, by decide⟩, _, rfl, _, _, rfl, rfl, .inr ⟨by decide, by decide⟩, _, _, rfl, rfl, _, _, rfl, rfl, .inl ⟨_, rfl, _, _, rfl, rfl, (by show (0 : Int) < 2147483647; decide), ?_⟩⟩
        refine ⟨12, rfl, by decide, by decide, for_range (lo := 0) (n := 12) (fun j σ H3 => ∃ v6 v7, σ = [some (.ref a), some (.int f), some (.int l), some (.ref d), some (.int (f + (i : Int))), some (.int c), v6, some (.int v7)] ∧ Dl H H3 d (60 * i + j)) ⟨_, _, rfl, W⟩ ?_ ?_⟩
        · rintro j σ H3 hj ⟨v6, v7, rfl, W3⟩
          obtain ⟨ds, e, hds⟩ := W3.ex
          refine ⟨_, rfl, _, _, rfl, rfl, .inr ⟨by decide, by decide⟩, _, rfl, _, _, rfl, rfl, .inl ⟨by decide, by decide⟩, _, _, rfl, rfl, _, _, rfl, rfl, .inl ⟨_, rfl, _, _, rfl, rfl, (by show (0 : Int) < 2147483647; decide), ?_⟩⟩
          refine ⟨_, rfl, .inl ⟨rfl, _, .inl (.inl e)⟩, _, rfl, _, _, rfl, rfl, ⟨by decide, by decide⟩, .inl ⟨_, rfl, _, _, rfl, rfl, (by show (0 : Int) < 1000; decide), d, _, _, rfl, rfl, e, ?_, ?_⟩⟩
          · rw [List.length_map]; exact szlt hds.1 (by omega)
          · exact ⟨_, _, rfl, W3.snoc hd e hds⟩
        · rintro σ H3 ⟨v6, v7, rfl, W3⟩
          exact ⟨_, _, _, _, rfl, W3.mono (by omega)⟩
  · rintro σ H2 ⟨v4, v5, v6, v7, rfl, W⟩
    exact ⟨_, rfl, q d _ hd (W.mono (by omega))⟩
abbrev N_Lbox : List Str := ["_law_script", "_law_first", "_law_last"]
theorem sc_Lbox : FnScope N_Lbox ["_law_script", "_law_first", "_law_last"] (defScope s_Lbox) := ⟨rfl, rfl, rfl, by decide +kernel, rfl, by decide +kernel, by decide +kernel⟩
def sp_Lbox (K : PySem.W.Frag) : Sp := fun vs H Q _ => ∃ (a : Addr) (ns : List Int) (f l : Int), vs = [.ref a, .int f, .int l] ∧ SqL K H a (ns.map V.int) ∧ 0 ≤ f ∧ f ≤ 63 ∧ 0 ≤ l ∧ l ≤ 63 ∧
  ∀ (b : Addr) (H' : Hp), H b = none → Gr H H' → Bx H' b → Q (.ref b) H'
theorem ok_Lbox (B : Bn mg) (D : Df K mg "_law_box" s_Lbox ["_law_script", "_law_first", "_law_last"]) (c_Ldigits : Cl CX0 P w K mg base 2 "_law_digits" (sp_Ldigits K)) : Cl CX0 P w K mg base 3 "_law_box" (sp_Lbox K) := by
  refine D.ok sc_Lbox (fun vs H Q E h => ?_) (fun f cdv A outer s H vs Q E hr h => ?_)
  · obtain ⟨a, ns, f, l, rfl, _⟩ := h
    rfl
  obtain ⟨a, ns, f, l, rfl, hS, f0, f1, l0, l1, q⟩ := h
  refine ⟨_, (pss_one (ps_ret (pe_lst (pa_cons (pc c_Ldigits hr (by omega) rfl ps0 (pa_cons (pv 0) (pa_cons (pv 1) (pa_cons (pv 2) pa_nil)))) (pa_cons pe_int pa_nil))))), ?_⟩
  refine ⟨_, rfl, _, rfl, _, rfl, a, ns, f, l, rfl, hS, f0, f1, l0, l1, fun d H1 hd W => ?_⟩
  refine ⟨(by show 2 ≤ sizeLine; decide), fun p hp => ?_⟩
  obtain ⟨ds, e, hds⟩ := W.ex
  have n1 : d ≠ p := ne_of_none e hp
  exact q p _ (W.gr.dom _ hp) (W.gr.trans (Gx.new hp)) ⟨d, 0, ds, upd_same, by omega, by rw [upd_ne n1]; exact e, by have := hds.1; omega, hds.2, n1⟩
def L8 : List Str := ["a", "b", "c", "d", "e", "f", "g", "h"]
theorem l8_at : ∀ (j : Nat), j < 8 → ∃ c, ("abcdefgh" : Str).cps.toList[j]? = some c ∧ (⟨#[c]⟩ : Str) ∈ L8
  | 0, _ => ⟨_, rfl, by decide +kernel⟩ | 1, _ => ⟨_, rfl, by decide +kernel⟩ | 2, _ => ⟨_, rfl, by decide +kernel⟩ | 3, _ => ⟨_, rfl, by decide +kernel⟩
  | 4, _ => ⟨_, rfl, by decide +kernel⟩ | 5, _ => ⟨_, rfl, by decide +kernel⟩ | 6, _ => ⟨_, rfl, by decide +kernel⟩ | 7, _ => ⟨_, rfl, by decide +kernel⟩
  | n + 8, h => absurd h (by omega)
theorem l8_int {r : Int} (h0 : 0 ≤ r) (h1 : r < 8) : ∃ c, atI ("abcdefgh" : Str).cps.toList r = some c ∧ (⟨#[c]⟩ : Str) ∈ L8 := by
  obtain ⟨j, rfl⟩ : ∃ j : Nat, r = (j : Int) := ⟨r.toNat, by omega⟩
  obtain ⟨c, e, m⟩ := l8_at j (by omega)
  exact ⟨c, atI_nat e, m⟩
abbrev N_Lany : List Str := ["_law_box_here", "_law_room", "_law_many", "_law_kind", "_law_left", "_law_first"]
theorem sc_Lany : FnScope N_Lany ["_law_box_here", "_law_room", "_law_many"] (defScope s_Lany) := ⟨rfl, rfl, rfl, by decide +kernel, rfl, by decide +kernel, by decide +kernel⟩
def sp_Lany (K : PySem.W.Frag) (n : Nat) : Sp := fun vs H Q _ => ∃ (b : Addr) (room many : Int), vs = [.ref b, .int room, .int many] ∧ Bx H b ∧ 0 ≤ room ∧ room < n ∧ 1 ≤ many ∧ many ≤ 8 ∧
  ∀ (v : V) (f : Fm) (H' : Hp), Gx [b] H H' → Bx H' b → FmV K H' v f → ((f.size : Int) ≤ room ∨ f.size = 1) → (∀ x ∈ f.lets, x ∈ L8) → Q v H'
theorem st_Lany {n : Nat} (B : Bn mg) (D : Df K mg "_law_any" s_Lany ["_law_box_here", "_law_room", "_law_many"]) (c_Ldraw : Cl CX0 P w K mg base 1 "_law_draw" sp_Ldraw) (c_Lany : Cl CX0 P w K mg base (n + 1) "_law_any" (sp_Lany K n)) :
    Cl CX0 P w K mg base (n + 2) "_law_any" (sp_Lany K (n + 1)) := by
  refine D.ok sc_Lany (fun vs H Q E h => ?_) (fun f cdv A outer s H vs Q E hr h => ?_)
  · obtain ⟨b, room, many, rfl, _⟩ := h
    rfl
  obtain ⟨b, room, many, rfl, hB, h0, hn, m0, m1, q⟩ := h
  refine ⟨_, (pss_cons (ps_set (i := 3) sc_Lany.nd rfl (by first | exact Or.inl rfl | exact Or.inr rfl) (pc c_Ldraw hr (by omega) rfl ps0 (pa_cons (pv 0) (pa_cons pe_int pa_nil))))
  (pss_cons (ps_if (PW.pt (pw_or (pt_cmpR op_lt (pv 1) pe_int (nomark _)) (pw_or1 (pt_cmpR op_lt (pv 3) pe_int (nomark _)))))
    (pss_one (ps_ret (pe_tup (pa_cons pe_str (pa_cons (pe_ix ix_str pe_str (pc c_Ldraw hr (by omega) rfl ps0 (pa_cons (pv 0) (pa_cons (pv 2) pa_nil))) (fun _ _ => rfl)) pa_nil)))))
    pss_nil)
  (pss_cons (ps_if (PW.pt (pw_or (pt_cmpR op_lt (pv 1) pe_int (nomark _)) (pw_or1 (pt_cmpR op_lt (pv 3) pe_int (nomark _)))))
    (pss_one (ps_ret (pe_tup (pa_cons pe_str (pa_cons (pc c_Lany hr (by omega) rfl ps0 (pa_cons (pv 0) (pa_cons (pe_op op_sub (pv 1) pe_int) (pa_cons (pv 2) pa_nil)))) pa_nil)))))
    pss_nil)
  (pss_cons (ps_set (i := 4) sc_Lany.nd rfl (by first | exact Or.inl rfl | exact Or.inr rfl) (pe_op op_add pe_int (pc c_Ldraw hr (by omega) rfl ps0 (pa_cons (pv 0) (pa_cons (pe_op op_sub (pv 1) pe_int) pa_nil)))))
  (pss_cons (ps_set (i := 5) sc_Lany.nd rfl (by first | exact Or.inl rfl | exact Or.inr rfl) (pc c_Lany hr (by omega) rfl ps0 (pa_cons (pv 0) (pa_cons (pv 4) (pa_cons (pv 2) pa_nil)))))
  (pss_one (ps_ret (pe_tup (pa_cons pe_str (pa_cons (pv 5) (pa_cons (pc c_Lany hr (by omega) rfl ps0 (pa_cons (pv 0) (pa_cons (pe_op op_sub (pe_op op_sub (pv 1) pe_int) (pv 4)) (pa_cons (pv 2) pa_nil)))) pa_nil))))))))))), ?_⟩
  refine ⟨_, rfl, b, 8, rfl, by decide, hB, fun kind H1 k0 k1 g1 B1 => ?_⟩
  refine ⟨_, rfl, _, _, rfl, rfl, _, rfl, ite2 (fun c => iteT ?l1) (fun c1 => ⟨_, rfl, _, _, rfl, rfl, _, rfl, ite2 (fun c => ?l2) (fun c => ?l3)⟩)⟩
  case l1 | l2 =>
    refine ⟨_, rfl, _, rfl, b, many, rfl, by omega, B1, fun r H2 r0 r1 g2 B2 => ?_⟩
    obtain ⟨cc, e, m⟩ := l8_int r0 (by omega)
    refine ⟨_, r, cc, rfl, rfl, (by decide : ("abcdefgh" : Str).length ≤ sizeLine), e, (by show 2 ≤ sizeLine; decide), fun p hp => ?_⟩
    have g3 : Gx [b] H2 (upd H2 p (.tup [.str "letter", .str ⟨#[cc]⟩])) := Gx.new hp
    exact q _ (.lt ⟨#[cc]⟩) _ ((g1.trans g2).trans g3) (B2.gr (Gx.new hp)) (mk_lt (SqT.of upd_same)) (.inr rfl) fun x hx => by rw [List.mem_singleton.mp hx]; exact m
  have r2 : ¬ room < 2 := fun z => c1 (decide_eq_true z)
  refine ⟨_, rfl, _, _, rfl, rfl, _, rfl, ite2 (fun c => iteT ?m1) (fun c3 => ⟨_, rfl, _, _, rfl, rfl, _, rfl, ite2 (fun c => ?m2) (fun c => ?m3)⟩)⟩
  case m1 | m2 =>
    refine ⟨_, rfl, _, rfl, _, _, rfl, rfl, _, rfl, b, room - 1, many, rfl, B1, by omega, by omega, m0, m1, fun v f H2 g2 B2 hf hs hl => ?_⟩
    refine ⟨(by show 2 ≤ sizeLine; decide), fun p hp => ?_⟩
    have g3 : Gx [b] H2 (upd H2 p (.tup [.str "not", v])) := Gx.new hp
    refine q _ (.ng f) _ ((g1.trans g2).trans g3) (B2.gr (Gx.new hp)) (mk_ng (SqT.of upd_same) (g3.dt hf)) (.inl ?_) hl
    show ((1 + f.size : Nat) : Int) ≤ room
    omega
  have r3 : ¬ room < 3 := fun z => c3 (decide_eq_true z)
  refine ⟨_, rfl, _, rfl, _, _, rfl, rfl, b, room - 2, rfl, by omega, B1, fun r H2 r0 r1 g2 B2 => ?_⟩
  refine ⟨_, _, rfl, rfl, _, rfl, _, rfl, _, rfl, b, 1 + r, many, rfl, B2, by omega, by omega, m0, m1, fun v f H3 g3 B3 hf hs hl => ?_⟩
  refine ⟨_, rfl, _, rfl, _, rfl, _, _, rfl, rfl, _, rfl, _, _, rfl, rfl, _, rfl, b, room - 1 - (1 + r), many, rfl, B3, by omega, by omega, m0, m1, fun v4 f4 H4 g4 B4 hf4 hs4 hl4 => ?_⟩
  refine ⟨(by show 3 ≤ sizeLine; decide), fun p hp => ?_⟩
  have g5 : Gx [b] H4 (upd H4 p (.tup [.str "if", v, v4])) := Gx.new hp
  refine q _ (.im f f4) _ ((((g1.trans g2).trans g3).trans g4).trans g5) (B4.gr (Gx.new hp)) (mk_im (SqT.of upd_same) (g5.dt (g4.dt hf)) (g5.dt hf4)) (.inl ?_) fun x hx => (List.mem_append.mp hx).elim (hl x) (hl4 x)
  show ((1 + (f.size + f4.size) : Nat) : Int) ≤ room
  omega
theorem ok_Lany (B : Bn mg) (D : Df K mg "_law_any" s_Lany ["_law_box_here", "_law_room", "_law_many"]) (c_Ldraw : Cl CX0 P w K mg base 1 "_law_draw" sp_Ldraw) : ∀ n : Nat, Cl CX0 P w K mg base (n + 1) "_law_any" (sp_Lany K n)
  | 0 => D.none fun vs H Q E ⟨b, room, many, _, _, h0, h1, _⟩ => by omega
  | n + 1 => st_Lany B D c_Ldraw (ok_Lany B D c_Ldraw n)
abbrev N_Lput : List Str := ["_law_formula", "_law_table", "_law_part"]
theorem sc_Lput : FnScope N_Lput ["_law_formula", "_law_table"] (defScope s_Lput) := ⟨rfl, rfl, rfl, by decide +kernel, rfl, by decide +kernel, by decide +kernel⟩
def sp_Lput (K : PySem.W.Frag) (n : Nat) : Sp := fun vs H Q _ => ∃ (v : V) (d : Addr) (f : Fm) (t : Str → Option Fm), vs = [v, .ref d] ∧ FmV K H v f ∧ f.depth ≤ n ∧ (∃ N, Tb K H d N t) ∧
  ∀ (u : V) (H' : Hp), Gr H H' → FmV K H' u (f.put t) → Q u H'
theorem st_Lput {n : Nat} (B : Bn mg) (D : Df K mg "_law_put" s_Lput ["_law_formula", "_law_table"]) (c_Lput : Cl CX0 P w K mg base n "_law_put" (sp_Lput K n)) : Cl CX0 P w K mg base (n + 1) "_law_put" (sp_Lput K (n + 1)) := by
  refine D.ok sc_Lput (fun vs H Q E h => ?_) (fun f cdv A outer s H vs Q E hr h => ?_)
  · obtain ⟨v, d, f, t, rfl, _⟩ := h
    rfl
  obtain ⟨v, d, f, t, rfl, hf, hn, ⟨N0, hT⟩, q⟩ := h
  refine ⟨_, (pss_cons (ps_if (pt_cmpR op_eq (pe_ix ix_tup (pv 0) pe_int (fun _ _ => rfl)) pe_str (nomark _))
    (pss_one (ps_ret (pe_dget2 (hu_of hr) (pv 1) (pe_ix ix_tup (pv 0) pe_int (fun _ _ => rfl)) (pv 0) ⟨rfl, by rfl, by rfl, by rfl⟩)))
    pss_nil)
  (pss_one (ps_ret (pe_op op_catT (pe_tup (pa_cons (pe_ix ix_tup (pv 0) pe_int (fun _ _ => rfl)) pa_nil)) (pe_callTy call_tuple_of (by rfl) B.tuple (by decide +kernel) (pa_cons (pe_lc (own := [("_law_part", 2)]) rfl sc_Lput.nd (pi_tup (pe_slice sl_tup (pv 0) (po_some pe_int) po_none)) (blkOk_by (N := N_Lput) (sc := defScope s_Lput) (by decide +kernel)) (fun _ _ _ _ _ => (pg_name (i := 2) sc_Lput.nd rfl (by first | exact Or.inl rfl | exact Or.inr rfl))) (fun _ _ _ _ _ => pts_nil) (fun _ _ _ _ _ => (pc c_Lput hr (by omega) rfl ps0 (pa_cons (pv 2) (pa_cons (pv 1) pa_nil))))) pa_nil)))))), ?_⟩
  cases hl : f.isLt with
  | true =>
    cases f with
    | lt x =>
      obtain ⟨a, rfl, ha⟩ := fm_lt hf
      obtain ⟨kvs, h1, h2, h3⟩ := hT.ex
      refine ⟨_, rfl, a, _, _, _, rfl, rfl, ha, rfl, (by decide : scal (V.str "letter") (V.str "letter") = true), _, rfl, ?_⟩
      refine iteT ?_
      refine ⟨_, rfl, d, rfl, .inl ⟨kvs, .inl h1⟩, _, rfl, a, _, _, _, rfl, rfl, ha, rfl, _, rfl, _, DGet.k (k := Sum.inr x) h1, ?_⟩
      rcases h3 x with ⟨e1, e2⟩ | ⟨g, u, e1, e2, hu⟩
      · rw [e2]
        refine q _ _ Gx.refl ?_
        show FmV K H _ ((t x).getD (.lt x))
        rw [e1]; exact hf
      · rw [e2]
        refine q _ _ Gx.refl ?_
        show FmV K H _ ((t x).getD (.lt x))
        rw [e1]; exact hu
    | ng p => cases hl
    | im p q => cases hl
  | false =>
    obtain ⟨a, xs, rfl, ha, hk⟩ := fm_node hf hl
    have hlen : xs.length = f.kids.length := by rw [hk.len, List.length_map]
    have hlen2 : xs.length ≤ 2 := by rw [hlen]; exact f.kids_len
    have hx0 : xs ≠ [] := fun e => f.kids_ne hl (List.length_eq_zero_iff.mp (by rw [← hlen, e]; rfl))
    refine ⟨_, rfl, a, _, _, _, rfl, rfl, ha, at0, (by rfl : scal (V.str f.tag) (V.str "letter") = true), _, rfl, ?_⟩
    rw [Fm.tag_ne hl]
    refine iteF ?_
    refine ⟨_, rfl, a, _, _, _, rfl, rfl, ha, at0, (by show 1 ≤ sizeLine; decide), fun p hp => ?_⟩
    refine ⟨_, rfl, 1, rfl, a, _, rfl, (Gx.new hp : Gr _ _).sqT ha, ?_, fun c hc => ?_⟩
    · rw [show HT.sIx (V.str f.tag :: xs).length 0 (some 1) = 1 from (HT.sIx_nat _ 0 1).trans (by rw [List.length_cons]; omega)]
      exact fun z => absurd z.1 (by decide)
    have ec : cutV (V.str f.tag :: xs) (some 1) none = xs := by
      unfold cutV
      rw [show HT.sIx (V.str f.tag :: xs).length 0 (some 1) = 1 from (HT.sIx_nat _ 0 1).trans (by rw [List.length_cons]; omega), HT.sIx_none]
      show List.take ((xs.length + 1) - 1) xs = xs
      exact List.take_of_length_le (by omega)
    rw [ec]
    have gp : Gr H (upd H p (.tup [.str f.tag])) := Gx.new hp
    have gc : Gr H (upd (upd H p (.tup [.str f.tag])) c (.tup xs)) := gp.trans (Gx.new hc)
    refine ⟨c, rfl, ⟨xs, SqT.of upd_same⟩, fun D hD => ?_⟩
    have hpD : ∀ H', Gr (upd (upd H p (.tup [.str f.tag])) c (.tup xs)) H' → H' p = some (.tup [.str f.tag]) := fun H' g => g.tup p _ (by rw [upd_ne (ne_of_none (upd_same (o := .tup [.str f.tag])) hc)]; exact upd_same)
    have hcD : ∀ H', Gr (upd (upd H p (.tup [.str f.tag])) c (.tup xs)) H' → H' c = some (.tup xs) := fun H' g => g.tup c _ upd_same
    refine lc_tup (K := K) (a := c) (xs := xs) (fun i H' => Gr (upd (upd H p (.tup [.str f.tag])) c (.tup xs)) H' ∧ ∃ acc, H' D = some (.lst acc) ∧ acc.length = i ∧ DtAll K H' acc ((f.kids.take i).map fun g => (g.put t).d))
      ⟨Gx.new hD, [], upd_same, rfl, .nil⟩ (fun i H' _ ⟨g, _⟩ => SqT.of (hcD H' g)) ?_ ?_
    · rintro i x H' hi ⟨g, acc, e, el, ha'⟩
      have hik : i < f.kids.length := by rw [← hlen]; exact (List.getElem?_eq_some_iff.mp hi).1
      obtain ⟨x', e1, hx'⟩ := hk.get (i := i) (d := (f.kids[i]).d) (by rw [List.getElem?_map, List.getElem?_eq_getElem hik]; rfl)
      rw [hi] at e1; cases e1
      have hm : f.kids[i] ∈ f.kids := List.getElem_mem hik
      have hd := Fm.kids_depth hm
      have gH : Gr H H' := gc.trans g
      refine ⟨rfl, _, rfl, _, rfl, x, d, f.kids[i], t, rfl, gH.dt hx', by omega, ⟨N0, hT.gx gH (fun z => nomatch z)⟩, fun u H2 g2 hu => ?_⟩
      refine ⟨acc, g2.lst e (fun z => nomatch z), szlt (m := 2) (by omega) (by omega), ((g.trans g2).drop (S := []) (S' := [D]) (Gx.set (g2.lst e (fun z => nomatch z)) rfl) ?_), acc ++ [u], upd_same, by rw [List.length_append, el]; rfl, ?_⟩
      · intro z hz
        rw [List.mem_singleton.mp hz]
        exact .inr hD
      · have e2 : f.kids.take (i + 1) = f.kids.take i ++ [f.kids[i]] := by rw [List.take_succ, List.getElem?_eq_getElem hik]; rfl
        rw [e2, List.map_append]
        have gs : Gx [D] H2 (upd H2 D (.lst (acc ++ [u]))) := Gx.set (g2.lst e (fun z => nomatch z)) rfl
        exact DtAll.app (gs.dts (g2.dts ha')) (.cons (gs.dt hu) .nil)
    · rintro H' ⟨g, acc, e, el, ha'⟩
      have ek : f.kids.take xs.length = f.kids := List.take_of_length_le (by omega)
      rw [ek] at ha'
      refine ⟨D, acc, rfl, .inl ⟨SqL.of e, fun l hl' => ?_⟩⟩
      have gl : Gr H' (upd H' l (.tup acc)) := Gx.new hl'
      have hp2 : (upd H' l (.tup acc)) p = some (.tup [.str f.tag]) := gl.tup p _ (hpD H' g)
      refine ⟨p, l, _, _, rfl, rfl, SqT.of hp2, SqT.of upd_same, List.cons_ne_nil _ _, szle (m := 3) (by rw [List.length_singleton]; omega) (by omega), fun e0 => ?_, fun _ r hr2 => ?_⟩
      · rw [e0] at el; exact absurd (List.length_eq_zero_iff.mp el.symm) hx0
      · have gr2 : Gr (upd H' l (.tup acc)) (upd (upd H' l (.tup acc)) r (.tup ([.str f.tag] ++ acc))) := Gx.new hr2
        refine q _ _ (((gc.trans g).trans gl).trans gr2) ?_
        show Dt K _ _ (f.put t).d
        rw [Fm.put_node t hl]
        exact .tup (SqT.of upd_same) (.cons (.str _) (gr2.dts (gl.dts ha')))
theorem ok_Lput (B : Bn mg) (D : Df K mg "_law_put" s_Lput ["_law_formula", "_law_table"]) : ∀ n : Nat, Cl CX0 P w K mg base n "_law_put" (sp_Lput K n)
  | 0 => D.none fun vs H Q E ⟨_, _, f, _, _, _, h, _⟩ => by have := f.depth_pos; omega
  | n + 1 => st_Lput B D (ok_Lput B D n)
def N6 : List Str := ["a", "b", "z", "c7", "a0", "m9"]
theorem n6_at : ∀ (j : Nat), j < 6 → ∃ m, (N6.map V.str)[j]? = some (.str m) ∧ m ∈ N6
  | 0, _ => ⟨_, rfl, by decide +kernel⟩ | 1, _ => ⟨_, rfl, by decide +kernel⟩ | 2, _ => ⟨_, rfl, by decide +kernel⟩ | 3, _ => ⟨_, rfl, by decide +kernel⟩
  | 4, _ => ⟨_, rfl, by decide +kernel⟩ | 5, _ => ⟨_, rfl, by decide +kernel⟩
  | n + 6, h => absurd h (by omega)
theorem n6_int {r : Int} (h0 : 0 ≤ r) (h1 : r < 6) : ∃ m, atI (N6.map V.str) r = some (.str m) ∧ m ∈ N6 := by
  obtain ⟨j, rfl⟩ : ∃ j : Nat, r = (j : Int) := ⟨r.toNat, by omega⟩
  obtain ⟨c, e, m⟩ := n6_at j (by omega)
  exact ⟨c, atI_nat e, m⟩
abbrev N_Llettered : List Str := ["_law_box_here", "_law_room", "_law_many", "_law_names", "_law_table", "_law_name"]
theorem sc_Llettered : FnScope N_Llettered ["_law_box_here", "_law_room", "_law_many"] (defScope s_Llettered) := ⟨rfl, rfl, rfl, by decide +kernel, rfl, by decide +kernel, by decide +kernel⟩
def sp_Llettered (K : PySem.W.Frag) : Sp := fun vs H Q _ => ∃ (b : Addr) (room many : Int), vs = [.ref b, .int room, .int many] ∧ Bx H b ∧ 1 ≤ room ∧ room < 60 ∧ 1 ≤ many ∧ many ≤ 8 ∧
  ∀ (v : V) (f : Fm) (H' : Hp), Gx [b] H H' → Bx H' b → FmV K H' v f → (f.size : Int) ≤ room → (∀ x ∈ f.lets, x ∈ N6) → Q v H'
theorem ok_Llettered (B : Bn mg) (D : Df K mg "_law_lettered" s_Llettered ["_law_box_here", "_law_room", "_law_many"]) (c_Ldraw : Cl CX0 P w K mg base 1 "_law_draw" sp_Ldraw) (c_Lput : Cl CX0 P w K mg base 60 "_law_put" (sp_Lput K 60))
    (c_Lany : Cl CX0 P w K mg base 61 "_law_any" (sp_Lany K 60)) : Cl CX0 P w K mg base 62 "_law_lettered" (sp_Llettered K) := by
  refine D.ok sc_Llettered (fun vs H Q E h => ?_) (fun f cdv A outer s H vs Q E hr h => ?_)
  · obtain ⟨b, room, many, rfl, _⟩ := h
    rfl
  obtain ⟨b, room, many, rfl, hB, h0, hn, m0, m1, q⟩ := h
  refine ⟨_, (pss_cons (ps_set (i := 3) sc_Llettered.nd rfl (by first | exact Or.inl rfl | exact Or.inr rfl) (pe_lst (pa_cons pe_str (pa_cons pe_str (pa_cons pe_str (pa_cons pe_str (pa_cons pe_str (pa_cons pe_str pa_nil))))))))
  (pss_cons (ps_set (i := 4) sc_Llettered.nd rfl (by first | exact Or.inl rfl | exact Or.inr rfl) pe_dnewK)
  (pss_cons (ps_for PassesOwn.never rfl (pi_list (pe_lst (pa_cons pe_str (pa_cons pe_str (pa_cons pe_str (pa_cons pe_str (pa_cons pe_str (pa_cons pe_str (pa_cons pe_str (pa_cons pe_str pa_nil)))))))))) (pg_name (i := 5) sc_Llettered.nd rfl (by first | exact Or.inl rfl | exact Or.inr rfl))
    (pss_one (ps_dput (hu_of hr) (pv 4) (pv 5) (pe_tup (pa_cons pe_str (pa_cons (pe_ix ix_list (pv 3) (pc c_Ldraw hr (by omega) rfl ps0 (pa_cons (pv 0) (pa_cons pe_int pa_nil))) (fun _ _ => rfl)) pa_nil))) rfl)))
  (pss_one (ps_ret (pc c_Lput hr (by omega) rfl ps0 (pa_cons (pc c_Lany hr (by omega) rfl ps0 (pa_cons (pv 0) (pa_cons (pv 1) (pa_cons (pv 2) pa_nil)))) (pa_cons (pv 4) pa_nil)))))))), ?_⟩
  refine ⟨(by show 6 ≤ sizeLine; decide), fun nm hnm => ?_⟩
  generalize z1 : upd H nm _ = H1
  obtain ⟨g1, e1⟩ := hA_gr z1 hnm
  refine fun d hd => ?_
  generalize z2 : upd H1 d _ = H2
  obtain ⟨g2, e2⟩ := hA_gr z2 hd
  refine ⟨(by show 8 ≤ sizeLine; decide), fun l hl => ?_⟩
  generalize z3 : upd H2 l _ = HA
  obtain ⟨g3, e3⟩ := hA_gr z3 hl
  have e1 : H1 nm = some (.lst (N6.map V.str)) := e1
  have hl' : HA l = some (.lst (L8.map V.str)) := e3
  have g13 := (g1.trans g2).trans g3
  obtain ⟨dg, at_, ds, hb, _⟩ := hB.ex
  have nbd : b ≠ d := g1.ne hb hd
  have nnd : nm ≠ d := Gx.refl.ne (S := []) e1 hd
  have nbn : b ≠ nm := ne_of_none hb hnm
  have nbl : b ≠ l := (g1.trans g2).ne hb hl
  have nld : l ≠ d := (Gx.refl.ne (S := []) e2 hl).symm
  have hnm' : HA nm = some (.lst (N6.map V.str)) := g3.lst (g2.lst e1 (fun z => nomatch z)) (fun z => nomatch z)
  have hd' : HA d = some (.dK []) := gr_some g3 e2 fun ps e => nomatch e
  refine ⟨l, rfl, ⟨_, SqL.of hl'⟩, for_list (K := K) (a := l) (xs := L8.map V.str) (fun i σ H2 => ∃ v5 t, σ = [some (.ref b), some (.int room), some (.int many), some (.ref nm), some (.ref d), v5] ∧ Gx [b, d] HA H2 ∧ Bx H2 b ∧ Tb K H2 d i t ∧
    ∀ n ∈ L8.take i, ∃ m, t n = some (.lt m) ∧ m ∈ N6) ⟨none, _, rfl, Gx.refl, hB.gr g13, Tb.new hd', fun n h => nomatch h⟩ (fun i σ H2 _ ⟨_, _, _, g, _⟩ => SqL.of (g.lst hl' (by simp [nbl.symm, nld]))) ?_ ?_⟩
  · rintro i x σ H2 hi ⟨v5, t, rfl, g, B2, T2, ht⟩
    rw [List.getElem?_map] at hi
    obtain ⟨nx, hx, rfl⟩ : ∃ nx, L8[i]? = some nx ∧ V.str nx = x := by
      cases e : L8[i]? with
      | none => rw [e] at hi; cases hi
      | some nx => rw [e] at hi; exact ⟨nx, rfl, Option.some.inj hi⟩
    refine ⟨_, rfl, _, rfl, b, 6, rfl, by decide, B2, fun r H3 r0 r1 g3 B3 => ?_⟩
    obtain ⟨m, em, hm⟩ := n6_int r0 r1
    have gA : Gx [b, d] HA H3 := g.trans (g3.mono (by simp))
    refine ⟨nm, _, _, _, rfl, rfl, SqL.of (gA.lst hnm' (by simp [nbn.symm, nnd])), em, (by show 2 ≤ sizeLine; decide), fun p hp => ?_⟩
    have g4 : Gr H3 (upd H3 p (.tup [.str "letter", .str m])) := Gx.new hp
    have T3 : Tb K (upd H3 p (.tup [.str "letter", .str m])) d i t := (T2.gx g3 (by simp [nbd.symm])).gx g4 (fun z => nomatch z)
    obtain ⟨kvs, e1, e2, g5, T4⟩ := T3.dput nx (mk_lt (SqT.of upd_same) : FmV K _ (.ref p) (.lt m))
    have hi8 : i < 8 := by have := (List.getElem?_eq_some_iff.mp hx).1; exact this
    refine ⟨_, rfl, _, rfl, d, _, rfl, DPut.k (k := Sum.inr nx) e1 (szlt e2 (by omega)), ?_⟩
    refine ⟨_, _, rfl, (gA.trans (g4.mono (fun a h => nomatch h))).trans (g5.mono (by simp)), (B3.gr g4).gx g5 ?_, T4, fun n hn => ?_⟩
    · intro a ha
      rw [List.mem_singleton.mp ha]
      exact ⟨nbd.symm, fun xs e => by rw [e1] at e; cases e⟩
    · by_cases en : n = nx
      · exact ⟨m, if_pos en, hm⟩
      · obtain ⟨m', e', h'⟩ := ht n (by
          rw [List.take_succ, hx] at hn
          rcases List.mem_append.mp hn with h | h
          · exact h
          · exact absurd (List.mem_singleton.mp h) en)
        exact ⟨m', by show (if n = nx then _ else t n) = _; rw [if_neg en]; exact e', h'⟩
  · rintro σ H2 ⟨v5, t, rfl, g, B2, T2, ht⟩
    refine ⟨_, rfl, _, rfl, _, rfl, b, room, many, rfl, B2, by omega, by omega, m0, m1, fun v f H3 g3 B3 hf hs hl3 => ?_⟩
    have g03 : Gx [b] H H3 := ((g13.mono (fun a h => nomatch h)).drop (S := [b]) g (fun a ha => by
      rcases List.mem_cons.mp ha with rfl | ha
      · exact .inl (List.mem_singleton_self _)
      · rw [List.mem_singleton.mp ha]; exact .inr (g1.dom _ hd))).trans g3
    have hsz : (f.size : Int) ≤ room := by
      rcases hs with hs | hs
      · exact hs
      · omega
    have hdp := f.depth_le
    obtain ⟨p1, p2⟩ := Fm.put_lets (A := L8) (B := (· ∈ N6)) (t := t) (fun n hn => ht n (by rw [show (L8.map V.str).length = 8 from rfl, List.take_of_length_le (by decide)]; exact hn)) f hl3
    refine ⟨_, rfl, v, d, f, t, rfl, hf, by omega, ⟨_, T2.gx g3 (by simp [nbd.symm])⟩, fun u H4 g4 hu => ?_⟩
    exact q u _ H4 (g03.trans (g4.mono fun a h => nomatch h)) (B3.gr g4) hu (by rw [p1]; exact hsz) p2
abbrev N_Lsame : List Str := ["_law_actual", "_law_expected", "_law_k"]
theorem sc_Lsame : FnScope N_Lsame ["_law_actual", "_law_expected"] (defScope s_Lsame) := ⟨rfl, rfl, rfl, by decide +kernel, rfl, by decide +kernel, by decide +kernel⟩
/-- both are the same data: it says so -/
def sp_Lsame (K : PySem.W.Frag) (n : Nat) : Sp := fun vs H Q _ => ∃ (x y : V) (d : PyData), vs = [x, y] ∧ Dt K H x d ∧ Dt K H y d ∧ d.depth < n ∧ fine d = true ∧ Q (.bl true) H
theorem st_Lsame {n : Nat} (B : Bn mg) (D : Df K mg "_law_same" s_Lsame ["_law_actual", "_law_expected"]) (c_Lsame : Cl CX0 P w K mg base n "_law_same" (sp_Lsame K n)) : Cl CX0 P w K mg base (n + 1) "_law_same" (sp_Lsame K (n + 1)) := by
  refine D.ok sc_Lsame (fun vs H Q E h => ?_) (fun f cdv A outer s H vs Q E hr h => ?_)
  · obtain ⟨x, y, d, rfl, _⟩ := h
    rfl
  obtain ⟨x, y, d, rfl, hx, hy, hn, hz, q⟩ := h
  refine ⟨_, (pss_cons (ps_if (pt_val (pe_callB call_isi (by rfl) B.isinstance (by decide +kernel) (pa_cons (pv 1) (pa_cons (pe_bltn (v := .ty "tuple") (u := .type "tuple") (by rfl) B.tuple (by decide +kernel) rfl) pa_nil))))
    (pss_cons (ps_if (PW.pt (pw_or (pt_not (pt_val (pe_callB call_isi (by rfl) B.isinstance (by decide +kernel) (pa_cons (pv 0) (pa_cons (pe_bltn (v := .ty "tuple") (u := .type "tuple") (by rfl) B.tuple (by decide +kernel) rfl) pa_nil))))) (pw_or1 (pt_cmpR op_ne (pe_callB call_len_seq (by rfl) B.len PySem.boot_len (pa_cons (pv 0) pa_nil)) (pe_callB call_len_seq (by rfl) B.len PySem.boot_len (pa_cons (pv 1) pa_nil)) (nomark _)))))
    (pss_one (ps_ret pe_bl))
    pss_nil)
  (pss_cons (ps_for PassesOwn.never rfl (pi_range1 (by rfl) B.range (pa_cons (pe_callB call_len_seq (by rfl) B.len PySem.boot_len (pa_cons (pv 1) pa_nil)) pa_nil)) (pg_name (i := 2) sc_Lsame.nd rfl (by first | exact Or.inl rfl | exact Or.inr rfl))
    (pss_one (ps_if (pt_not (pt_val (pc c_Lsame hr (by omega) rfl ps0 (pa_cons (pe_ix ix_tup (pv 0) (pv 2) (fun _ _ => rfl)) (pa_cons (pe_ix ix_tup (pv 1) (pv 2) (fun _ _ => rfl)) pa_nil)))))
    (pss_one (ps_ret pe_bl))
    pss_nil)))
  (pss_one (ps_ret pe_bl))))
    pss_nil)
  (pss_cons (ps_if (pt_cmpR op_isN (pv 1) pe_non (nomark _))
    (pss_one (ps_ret (pe_cmpR op_isN (pv 0) pe_non (nomark _))))
    pss_nil)
  (pss_cons (ps_if (pt_val (pe_callB call_isi (by rfl) B.isinstance (by decide +kernel) (pa_cons (pv 1) (pa_cons (pe_bltn (v := .ty "bool") (u := .type "bool") (by rfl) B.bool (by decide +kernel) rfl) pa_nil))))
    (pss_one (ps_ret (pe_and (pe_callB call_isi (by rfl) B.isinstance (by decide +kernel) (pa_cons (pv 0) (pa_cons (pe_bltn (v := .ty "bool") (u := .type "bool") (by rfl) B.bool (by decide +kernel) rfl) pa_nil))) (pe_one (pe_cmpR op_eq (pv 0) (pv 1) (nomark _))))))
    pss_nil)
  (pss_cons (ps_if (pt_val (pe_callB call_isi (by rfl) B.isinstance (by decide +kernel) (pa_cons (pv 1) (pa_cons (pe_bltn (v := .ty "int") (u := .type "int") (by rfl) B.int (by decide +kernel) rfl) pa_nil))))
    (pss_one (ps_ret (pe_and (pe_callB call_isi (by rfl) B.isinstance (by decide +kernel) (pa_cons (pv 0) (pa_cons (pe_bltn (v := .ty "int") (u := .type "int") (by rfl) B.int (by decide +kernel) rfl) pa_nil))) (pe_and (pe_not (pe_callB call_isi (by rfl) B.isinstance (by decide +kernel) (pa_cons (pv 0) (pa_cons (pe_bltn (v := .ty "bool") (u := .type "bool") (by rfl) B.bool (by decide +kernel) rfl) pa_nil)))) (pe_one (pe_cmpR op_eq (pv 0) (pv 1) (nomark _)))))))
    pss_nil)
  (pss_one (ps_ret (pe_and (pe_callB call_isi (by rfl) B.isinstance (by decide +kernel) (pa_cons (pv 0) (pa_cons (pe_bltn (v := .ty "str") (u := .type "str") (by rfl) B.str (by decide +kernel) rfl) pa_nil))) (pe_one (pe_cmpR op_eq (pv 0) (pv 1) (nomark _)))))))))), ?_⟩
  have kt : ∀ {a b : String} {r : Bool}, kitB a b = some r → PySem.W.kitOne K (.type a) (.type b) = some r := fun h => h
  cases d with
  | none =>
    cases hx; cases hy
    refine ⟨_, rfl, _, _, _, _, false, rfl, .ty "tuple", .base .non, kt (by decide +kernel), _, rfl, iteF ?_⟩
    exact ⟨_, rfl, rfl, _, rfl, iteT ⟨_, rfl, rfl, q⟩⟩
  | bool b =>
    cases hx; cases hy
    refine ⟨_, rfl, _, _, _, _, false, rfl, .ty "tuple", .base (.bl b), kt (by decide +kernel), _, rfl, iteF ?_⟩
    refine ⟨_, rfl, rfl, _, rfl, iteF ?_⟩
    refine ⟨_, rfl, _, _, _, _, true, rfl, .ty "bool", .base (.bl b), kt (by decide +kernel), _, rfl, iteT ?_⟩
    refine ⟨_, rfl, _, _, _, _, true, rfl, .ty "bool", .base (.bl b), kt (by decide +kernel), _, rfl, iteT ⟨_, rfl, _, rfl, by cases b <;> rfl, ?_⟩⟩
    rw [decide_eq_true rfl]; exact q
  | int i =>
    cases hx; cases hy
    refine ⟨_, rfl, _, _, _, _, false, rfl, .ty "tuple", .base (.int i), kt (by decide +kernel), _, rfl, iteF ?_⟩
    refine ⟨_, rfl, rfl, _, rfl, iteF ?_⟩
    refine ⟨_, rfl, _, _, _, _, false, rfl, .ty "bool", .base (.int i), kt (by decide +kernel), _, rfl, iteF ?_⟩
    refine ⟨_, rfl, _, _, _, _, true, rfl, .ty "int", .base (.int i), kt (by decide +kernel), _, rfl, iteT ?_⟩
    refine ⟨_, rfl, _, _, _, _, true, rfl, .ty "int", .base (.int i), kt (by decide +kernel), _, rfl, iteT ⟨_, rfl, _, _, _, _, false, rfl, .ty "bool", .base (.int i), kt (by decide +kernel), _, rfl, _, rfl, iteT ⟨_, rfl, _, rfl, rfl, ?_⟩⟩⟩
    rw [decide_eq_true rfl]; exact q
  | str z =>
    cases hx; cases hy
    refine ⟨_, rfl, _, _, _, _, false, rfl, .ty "tuple", .base (.str z), kt (by decide +kernel), _, rfl, iteF ?_⟩
    refine ⟨_, rfl, rfl, _, rfl, iteF ?_⟩
    refine ⟨_, rfl, _, _, _, _, false, rfl, .ty "bool", .base (.str z), kt (by decide +kernel), _, rfl, iteF ?_⟩
    refine ⟨_, rfl, _, _, _, _, false, rfl, .ty "int", .base (.str z), kt (by decide +kernel), _, rfl, iteF ?_⟩
    refine ⟨_, rfl, _, _, _, _, true, rfl, .ty "str", .base (.str z), kt (by decide +kernel), _, rfl, iteT ⟨_, rfl, _, rfl, rfl, ?_⟩⟩
    rw [decide_eq_true rfl]; exact q
  | list _ => cases hx
  | dict _ => cases hx
  | tuple ds =>
    obtain ⟨a, xs, rfl, ha, hxs⟩ := hx.tupI
    obtain ⟨b, ys, rfl, hb, hys⟩ := hy.tupI
    have lx := hxs.len
    have ly := hys.len
    have hdep : PyData.depthAll ds + 1 < n + 1 := by
      rw [show PyData.depth (.tuple ds) = PyData.depthAll ds + 1 by simp only [PyData.depth]] at hn
      exact hn
    obtain ⟨hw, hz⟩ := fine_tup hz
    refine ⟨_, rfl, _, _, _, _, true, rfl, .ty "tuple", tyx_tup hb, kt (by decide +kernel), _, rfl, iteT ?_⟩
    refine ⟨_, rfl, _, _, _, _, true, rfl, .ty "tuple", tyx_tup ha, kt (by decide +kernel), _, rfl, iteF ?_⟩
    refine ⟨_, rfl, a, _, rfl, .inr ha, _, rfl, b, _, rfl, .inr hb, rfl, _, rfl, ?_⟩
    refine iteNS (by rw [lx, ly]) ?_
    refine ⟨_, rfl, b, _, rfl, .inr hb, _, rfl, by omega, by omega, for_range (lo := 0) (n := ((ys.length : Int)).toNat) (fun i σ H2 => H2 = H ∧ ∃ v, σ = [some (.ref a), some (.ref b), v]) ⟨rfl, _, rfl⟩ ?_ ?_⟩
    · rintro i σ H2 hi ⟨rfl, v, rfl⟩
      have hil : i < ds.length := by omega
      obtain ⟨x', ex, hx'⟩ := hxs.get (i := i) (d := ds[i]) (List.getElem?_eq_getElem hil)
      obtain ⟨y', ey, hy'⟩ := hys.get (i := i) (d := ds[i]) (List.getElem?_eq_getElem hil)
      have hm := depthAll_mem (List.getElem_mem hil)
      refine ⟨_, rfl, _, rfl, a, _, _, _, rfl, rfl, ha, by rw [Int.zero_add]; exact atI_nat ex, _, rfl, _, rfl, b, _, _, _, rfl, rfl, hb, by rw [Int.zero_add]; exact atI_nat ey, x', y', ds[i], rfl, hx', hy', by omega, hz _ (List.getElem_mem hil), _, rfl, iteF ⟨rfl, _, rfl⟩⟩
    · rintro σ H2 ⟨rfl, v, rfl⟩
      exact q
theorem ok_Lsame (B : Bn mg) (D : Df K mg "_law_same" s_Lsame ["_law_actual", "_law_expected"]) : ∀ n : Nat, Cl CX0 P w K mg base n "_law_same" (sp_Lsame K n)
  | 0 => D.none fun vs H Q E ⟨_, _, d, _, _, _, h, _⟩ => by omega
  | n + 1 => st_Lsame B D (ok_Lsame B D n)
structure TD (K : PySem.W.Frag) (CR : Addr) : Prop where
  cl : Cls K CR
  nR : NoAttr K CR "rows"
  nW : NoAttr K CR "waiting"
  nL : NoAttr K CR "lines"
abbrev N_Reader___init__ : List Str := ["self", "rows"]
theorem sc_Reader___init__ : FnScope N_Reader___init__ ["self", "rows"] (defScope s_Reader___init__) := ⟨rfl, rfl, rfl, by decide +kernel, rfl, by decide +kernel, by decide +kernel⟩
def sp_Di (K : PySem.W.Frag) (CR : Addr) : Sp := fun vs H Q _ => ∃ (r dx a : Addr) (rows : List Row) (H0 : Hp), vs = [.ref r, .ref a] ∧ H r = some (.ins CR dx []) ∧ Gr H0 H ∧ H0 r = none ∧ SqT K H a (rows.map fun t => V.str (SX.S t)) ∧
  ∀ H' : Hp, DrAt K CR H0 H' r rows [] [] → Q .non H'
theorem ok_Di {CR : Addr} (T : TD K CR) (D : Dm K CR "__init__" "Reader.__init__" s_Reader___init__ ["self", "rows"]) (hmk : PySem.W.makesIn K CR = true) (hkc : PySem.W.keepIn K (.ref CR) = true) (hx : mg "Reader" = some (.ref CR)) :
    Mm CX0 P w K mg base 1 "Reader" CR (sp_Di K CR) := by
  refine D.okM hmk hkc hx sc_Reader___init__ (fun vs H Q E h => ?_) (fun f cdv A outer s H vs Q E hr h => ?_)
  · obtain ⟨r, dx, a, rows, H0, rfl, _⟩ := h
    rfl
  obtain ⟨r, dx, a, rows, H0, rfl, hR, g0, r0, ha, q⟩ := h
  refine ⟨_, (pss_cons (ps_fld (pv 0) (pv 1) rfl)
  (pss_cons (ps_fld (pv 0) (pe_lst pa_nil) rfl)
  (pss_one (ps_fld (pv 0) (pe_lst pa_nil) rfl)))), ?_⟩
  refine ⟨_, rfl, _, rfl, r, CR, dx, [], rfl, hR, T.cl, T.nR, (by show 0 < 1000; decide), ?_⟩
  rw [df_1]
  generalize z1 : upd H r _ = H1
  have g1 : Gx [r] H H1 := by rw [← z1]; exact Gx.set hR rfl
  have e1 : H1 r = some (.ins CR dx [(("rows" : Str), V.ref a)]) := by rw [← z1]; exact upd_same
  refine ⟨Nat.zero_le _, fun wl hw => ?_⟩
  have n1 : r ≠ wl := ne_of_none e1 hw
  generalize z2 : upd H1 wl _ = H2
  obtain ⟨g2, e2⟩ := hA_gr z2 hw
  have e3 : H2 r = some (.ins CR dx [(("rows" : Str), V.ref a)]) := gr_some g2 e1 fun ps e => nomatch e
  refine ⟨_, rfl, r, CR, dx, _, rfl, e3, T.cl, T.nW, (by show 1 < 1000; decide), ?_⟩
  rw [df_2]
  generalize z3 : upd H2 r _ = H3
  have g3 : Gx [r] H2 H3 := by rw [← z3]; exact Gx.set e3 rfl
  have e4 : H3 r = some (.ins CR dx [(("rows" : Str), V.ref a), ("waiting", .ref wl)]) := by rw [← z3]; exact upd_same
  refine ⟨Nat.zero_le _, fun ll hl => ?_⟩
  have n2 : r ≠ ll := ne_of_none e4 hl
  have e5 : H3 wl = some (.lst []) := g3.lst e2 (by simp [n1.symm])
  have n3 : wl ≠ ll := ne_of_none e5 hl
  generalize z4 : upd H3 ll _ = H4
  obtain ⟨g4, e6⟩ := hA_gr z4 hl
  have e7 : H4 r = some (.ins CR dx [(("rows" : Str), V.ref a), ("waiting", .ref wl)]) := gr_some g4 e4 fun ps e => nomatch e
  refine ⟨_, rfl, r, CR, dx, _, rfl, e7, T.cl, T.nL, (by show 2 < 1000; decide), ?_⟩
  rw [df_3]
  have g5 : Gx [r] H4 (upd H4 r (.ins CR dx (df a wl ll))) := Gx.set e7 rfl
  have gw : Gr H0 H1 := g0.drop g1 (fun a m => by rw [List.mem_singleton.mp m]; exact .inr r0)
  have gl : Gr H0 H3 := (gw.trans g2).drop g3 (fun a m => by rw [List.mem_singleton.mp m]; exact .inr r0)
  exact q _ ⟨dx, a, wl, ll, [], (gl.trans g4).drop g5 (fun a m => by rw [List.mem_singleton.mp m]; exact .inr r0), upd_same, g5.sqT (g4.sqT (g3.sqT (g2.sqT (g1.sqT ha)))), (g5.lst (g4.lst e5 (fun m => nomatch m)) (by simp [n1.symm])), g5.lst e6 (by simp [n2.symm]), .nil, n3, r0, gw.dom _ hw, gl.dom _ hl⟩
abbrev N_Reader_sign : List Str := ["self", "row", "column"]
theorem sc_Reader_sign : FnScope N_Reader_sign ["self", "row", "column"] (defScope s_Reader_sign) := ⟨rfl, rfl, rfl, by decide +kernel, rfl, by decide +kernel, by decide +kernel⟩
def sp_Ds (K : PySem.W.Frag) (CR : Addr) : Sp := fun vs H Q _ => ∃ (r : Addr) (i c : Nat) (t : Row) (rows : List Row) (W : List Nat) (L : List Line) (H0 : Hp), vs = [.ref r, .int i, .int c] ∧ DrAt K CR H0 H r rows W L ∧ rows[i]? = some t ∧ t.length ≤ 90000 ∧ Q (.str (SX.S ((t.drop c).take 1))) H
theorem ok_Ds {CR : Addr} (T : TD K CR) (D : Dm K CR "sign" "Reader.sign" s_Reader_sign ["self", "row", "column"]) : Ml CX0 P w K mg base 1 CR "sign" (sp_Ds K CR) := by
  refine D.ok sc_Reader_sign (fun vs H Q E h => ?_) (fun f cdv A outer s H vs Q E hr h => ?_)
  · obtain ⟨r, i, c, t, rows, W, L, H0, rfl, _⟩ := h
    rfl
  obtain ⟨r, i, c, t, rows, W, L, H0, rfl, ⟨dx, a, wl, ll, ls, R⟩, ht, hz, q⟩ := h
  refine ⟨_, (pss_one (ps_ret (pe_slice sl_str (pe_ix ix_tup (pe_fld (pv 0) rfl) (pv 1) (fun _ _ => rfl)) (po_some (pv 2)) (po_some (pe_op op_add (pv 2) pe_int))))), ?_⟩
  refine ⟨_, rfl, r, CR, dx, _, _, rfl, R.ob, T.cl, T.nR, df_rows _ _ _, _, rfl, a, _, _, _, rfl, rfl, R.ra, atI_nat (j := i) (v := .str (SX.S t)) (by rw [List.getElem?_map, ht]; rfl), _, rfl, _, rfl, _, rfl, _, 1, rfl, rfl, _, rfl, _, rfl, by rw [SX.S_len]; exact szle hz (by omega), ?_⟩
  rw [cut_at]; exact q
abbrev N_Reader_read_before : List Str := ["self", "row", "last", "column", "wanted"]
theorem sc_Reader_read_before : FnScope N_Reader_read_before ["self", "row"] (defScope s_Reader_read_before) := ⟨rfl, rfl, rfl, by decide +kernel, rfl, by decide +kernel, by decide +kernel⟩
/-- what stands before a row's strokes, the columns behind it and the place of the strokes -/
def Bfr (i : Nat) (t : Row) (W W1 : List Nat) (c0 : Nat) : Prop := (i = 0 ∧ W = W1 ∧ c0 = 0) ∨ (0 < i ∧ ∃ c rest, W = W1 ++ [c] ∧ t = pfx W1 c ++ 96 :: rest ∧ c0 = c + 1)
def sp_Db (K : PySem.W.Frag) (CR : Addr) : Sp := fun vs H Q _ => ∃ (r : Addr) (i c0 : Nat) (t : Row) (rows : List Row) (W W1 : List Nat) (L : List Line) (H0 : Hp), vs = [.ref r, .int i] ∧ DrAt K CR H0 H r rows W L ∧ rows[i]? = some t ∧ t.length ≤ 90000 ∧ Bfr i t W W1 c0 ∧
  ∀ H' : Hp, DrAt K CR H0 H' r rows W1 L → Q (.int c0) H'
theorem ok_Db {CR : Addr} (B : Bn mg) (T : TD K CR) (D : Dm K CR "read_before" "Reader.read_before" s_Reader_read_before ["self", "row"]) (c_sign : Ml CX0 P w K mg base 1 CR "sign" (sp_Ds K CR)) : Ml CX0 P w K mg base 2 CR "read_before" (sp_Db K CR) := by
  refine D.ok sc_Reader_read_before (fun vs H Q E h => ?_) (fun f cdv A outer s H vs Q E hr h => ?_)
  · obtain ⟨r, i, c0, t, rows, W, W1, L, H0, rfl, _⟩ := h
    rfl
  obtain ⟨r, i, c0, t, rows, W, W1, L, H0, rfl, ⟨dx, a, wl, ll, ls, R⟩, ht, hz, hb, q⟩ := h
  refine ⟨_, (pss_cons (ps_if (pt_cmpR op_eq (pv 1) pe_int (nomark _))
    (pss_one (ps_ret pe_int))
    pss_nil)
  (pss_cons (ps_if (pt_not (pt_truth (pe_fld (pv 0) rfl) (by intro _; rfl)))
    (pss_one ps_never)
    pss_nil)
  (pss_cons (ps_set (i := 2) sc_Reader_read_before.nd rfl (by first | exact Or.inl rfl | exact Or.inr rfl) (pe_bm0 PySem.F.plainAttrs_list PySem.F.slot_list_pop PySem.F.type_list_pop mt_pop (pe_fld (pv 0) rfl)))
  (pss_cons (ps_for PassesOwn.never rfl (pi_range1 (by rfl) B.range (pa_cons (pe_op op_add (pv 2) pe_int) pa_nil)) (pg_name (i := 3) sc_Reader_read_before.nd rfl (by first | exact Or.inl rfl | exact Or.inr rfl))
    (pss_cons (ps_set (i := 4) sc_Reader_read_before.nd rfl (by first | exact Or.inl rfl | exact Or.inr rfl) (pe_ifExp (pt_cmpR op_eq (pv 3) (pv 2) (nomark _)) pe_str (pe_ifExp (pt_cmpR op_in_seq (pv 3) (pe_fld (pv 0) rfl) rfl) pe_str pe_str)))
  (pss_one (ps_if (pt_cmpR op_ne (pm T.cl c_sign hr (by omega) ps0 (pv 0) (pa_cons (pv 1) (pa_cons (pv 3) pa_nil))) (pv 4) (nomark _))
    (pss_one ps_never)
    pss_nil))))
  (pss_one (ps_ret (pe_op op_add (pv 2) pe_int))))))), ?_⟩
  refine ⟨_, rfl, rfl, _, rfl, ?_⟩
  rcases hb with ⟨rfl, rfl, rfl⟩ | ⟨hi, c, rest, rfl, et, rfl⟩
  · rw [decide_eq_true (show V.int ((0 : Nat) : Int) = V.int 0 from rfl)]
    exact iteT (q H R.at)
  · rw [decide_eq_false (by intro e; injection e with e; omega)]
    refine iteF ?_
    have hw : H wl = some (.lst (wts W1 ++ [.int (c : Int)])) := by rw [R.wt]; unfold wts; rw [List.map_append]; rfl
    have hcz : c < 90000 := by rw [et, List.length_append, pfx_len, List.length_cons] at hz; omega
    refine ⟨_, rfl, r, CR, dx, _, _, rfl, R.ob, T.cl, T.nW, df_waiting _ _ _, true, ?_, ?_⟩
    · exact .inl ⟨_, SqL.of hw, by simp⟩
    refine iteF ?_
    refine ⟨_, rfl, r, CR, dx, _, _, rfl, R.ob, T.cl, T.nW, df_waiting _ _ _, .inl ⟨rfl, _, .inl (.inl hw)⟩, wl, _, .int (c : Int), rfl, rfl, hw, by simp, ?_⟩
    rw [List.dropLast_concat]
    have R1 := R.setW W1
    refine ⟨_, rfl, _, 1, rfl, rfl, c + 1, rfl, by omega, by omega, for_range (lo := 0) (n := ((c : Int) + 1).toNat) (fun j σ H2 => ∃ v1 v2, σ = [some (.ref r), some (.int i), some (.int c), v1, v2] ∧ H2 = upd H wl (.lst (wts W1))) ⟨none, none, rfl, rfl⟩ ?_ ?_⟩
    · rintro j σ H2 hj ⟨v1, v2, rfl, rfl⟩
      have hj : j < c + 1 := by omega
      rw [Int.zero_add]
      refine ⟨_, rfl, _, rfl, rfl, _, rfl, ?_⟩
      by_cases e : j = c
      · subst e
        have hs : (t.drop j).take 1 = [96] := by
          have := sig_at (P := pfx W1 j) (rest := rest) (s := 96)
          rw [pfx_len] at this
          rw [et]; exact this
        rw [decide_eq_true rfl]
        refine iteT ?_
        exact ⟨_, rfl, r, dx, _, rfl, R1.ob, df_no _ _ _ (by decide +kernel) (by decide +kernel) (by decide +kernel), _, rfl, _, rfl, r, i, j, t, rows, W1, L, H0, rfl, R1.at, ht, hz, _, rfl, rfl, _, rfl, iteNS (by rw [hs, z_ba]) ⟨_, _, rfl, rfl⟩⟩
      · have hs : (t.drop j).take 1 = [if j ∈ W1 then 124 else 32] := by rw [et]; exact sig_lt (by omega)
        rw [decide_eq_false (by intro h; injection h with h; omega)]
        refine iteF ?_
        refine ⟨_, rfl, _, rfl, r, CR, dx, _, _, rfl, R1.ob, T.cl, T.nW, df_waiting _ _ _, wl, _, rfl, .inl (SqL.of R1.wt), rfl, flat_wts _, _, rfl, ?_⟩
        rw [if_neg (by decide), inV_wts]
        by_cases m : j ∈ W1
        · rw [if_pos m] at hs
          rw [decide_eq_true m]
          refine iteT ?_
          exact ⟨_, rfl, r, dx, _, rfl, R1.ob, df_no _ _ _ (by decide +kernel) (by decide +kernel) (by decide +kernel), _, rfl, _, rfl, r, i, j, t, rows, W1, L, H0, rfl, R1.at, ht, hz, _, rfl, rfl, _, rfl, iteNS (by rw [hs, z_pi]) ⟨_, _, rfl, rfl⟩⟩
        · rw [if_neg m] at hs
          rw [decide_eq_false m]
          refine iteF ?_
          exact ⟨_, rfl, r, dx, _, rfl, R1.ob, df_no _ _ _ (by decide +kernel) (by decide +kernel) (by decide +kernel), _, rfl, _, rfl, r, i, j, t, rows, W1, L, H0, rfl, R1.at, ht, hz, _, rfl, rfl, _, rfl, iteNS (by rw [hs, z_sp]) ⟨_, _, rfl, rfl⟩⟩
    · rintro σ H2 ⟨v1, v2, rfl, rfl⟩
      exact ⟨_, rfl, _, 1, rfl, rfl, q _ R1.at⟩
abbrev N_Reader_read_row : List Str := ["self", "row", "column", "strokes", "name", "digit"]
theorem sc_Reader_read_row : FnScope N_Reader_read_row ["self", "row"] (defScope s_Reader_read_row) := ⟨rfl, rfl, rfl, by decide +kernel, rfl, by decide +kernel, by decide +kernel⟩
def sp_Dr (K : PySem.W.Frag) (CR : Addr) : Sp := fun vs H Q _ => ∃ (r : Addr) (i : Nat) (t pre S : List Nat) (n : Str) (rows : List Row) (W W1 : List Nat) (L : List Line) (H0 : Hp), vs = [.ref r, .int i] ∧ DrAt K CR H0 H r rows W L ∧ rows[i]? = some t ∧ t.length ≤ 1000 ∧ Bfr i t W W1 pre.length ∧
  t = pre ++ (S ++ 32 :: n.cps.toList) ∧ Sok S ∧ Nm n ∧ L.length ≤ 50000 ∧ W1.length ≤ 50000 ∧ ∀ H' : Hp, DrAt K CR H0 H' r rows (W1 ++ plus pre.length S) (L ++ [(S, n)]) → Q .non H'
theorem ok_Dr {CR : Addr} (B : Bn mg) (T : TD K CR) (D : Dm K CR "read_row" "Reader.read_row" s_Reader_read_row ["self", "row"]) (c_sign : Ml CX0 P w K mg base 1 CR "sign" (sp_Ds K CR)) (c_read_before : Ml CX0 P w K mg base 2 CR "read_before" (sp_Db K CR)) : Ml CX0 P w K mg base 3 CR "read_row" (sp_Dr K CR) := by
  refine D.ok sc_Reader_read_row (fun vs H Q E h => ?_) (fun f cdv A outer s H vs Q E hr h => ?_)
  · obtain ⟨r, i, t, pre, S, n, rows, W, W1, L, H0, rfl, _⟩ := h
    rfl
  obtain ⟨r, i, t, pre, S, n, rows, W, W1, L, H0, rfl, ⟨dx, a, wl, ll, ls, R⟩, ht, hz, hb, et, hs, hn, hL, hW, q⟩ := h
  refine ⟨_, (pss_cons (ps_set (i := 2) sc_Reader_read_row.nd rfl (by first | exact Or.inl rfl | exact Or.inr rfl) (pm T.cl c_read_before hr (by omega) ps0 (pv 0) (pa_cons (pv 1) pa_nil)))
  (pss_cons (ps_set (i := 3) sc_Reader_read_row.nd rfl (by first | exact Or.inl rfl | exact Or.inr rfl) pe_str)
  (pss_cons (ps_while PassesOwn.never (pt_cmpR op_in_seq (pm T.cl c_sign hr (by omega) ps0 (pv 0) (pa_cons (pv 1) (pa_cons (pv 2) pa_nil))) (pe_tup (pa_cons pe_str (pa_cons pe_str (pa_cons pe_str pa_nil)))) rfl)
    (pss_cons (ps_aug (i := 3) sc_Reader_read_row.nd rfl (by first | exact Or.inl rfl | exact Or.inr rfl) (pm T.cl c_sign hr (by omega) ps0 (pv 0) (pa_cons (pv 1) (pa_cons (pv 2) pa_nil))) ip_addS)
  (C8.pss_cut (ps_if (pt_cmpR op_eq (pe_ix ix_str (pv 3) (pe_un un_neg pe_int) (fun _ _ => rfl)) pe_str (nomark _))
    (pss_one (ps_expr (pe_bm PySem.F.plainAttrs_list PySem.F.slot_list_append PySem.F.type_list_append mt_append (pe_fld (pv 0) rfl) (pa_cons (pv 2) pa_nil))))
    pss_nil)
  (pss_one (ps_aug (i := 2) sc_Reader_read_row.nd rfl (by first | exact Or.inl rfl | exact Or.inr rfl) pe_int ip_add)))))
  (pss_cons (ps_if (PW.pt (pw_or (pt_cmpR op_ne (pe_slice sl_str (pv 3) (po_some (pe_un un_neg pe_int)) po_none) pe_str (nomark _)) (pw_or1 (pt_cmpR op_ne (pm T.cl c_sign hr (by omega) ps0 (pv 0) (pa_cons (pv 1) (pa_cons (pv 2) pa_nil))) pe_str (nomark _)))))
    (pss_one ps_never)
    pss_nil)
  (pss_cons (ps_set (i := 4) sc_Reader_read_row.nd rfl (by first | exact Or.inl rfl | exact Or.inr rfl) (pm T.cl c_sign hr (by omega) ps0 (pv 0) (pa_cons (pv 1) (pa_cons (pe_op op_add (pv 2) pe_int) pa_nil))))
  (pss_cons (ps_if (PW.pt (pw_or (pt_not (pt_truth (pv 4) (by intro _; rfl))) (pw_or1 (pt_cmpR op_notIn_sign (pv 4) (pgc rfl B.g_SMALL) rfl))))
    (pss_one ps_never)
    pss_nil)
  (pss_cons (ps_set (i := 5) sc_Reader_read_row.nd rfl (by first | exact Or.inl rfl | exact Or.inr rfl) (pm T.cl c_sign hr (by omega) ps0 (pv 0) (pa_cons (pv 1) (pa_cons (pe_op op_add (pv 2) pe_int) pa_nil))))
  (C8.pss_cut (ps_if (PW.pt (pw_and (pt_truth (pv 5) (by intro _; rfl)) (pw_and1 (pt_cmpR op_in_sign (pv 5) (pgc rfl B.g_DIGITS) rfl))))
    (pss_one (ps_aug (i := 4) sc_Reader_read_row.nd rfl (by first | exact Or.inl rfl | exact Or.inr rfl) (pv 5) ip_addS))
    pss_nil)
  (pss_cons (ps_if (pt_cmpR op_gt (pe_callB call_len_str (by rfl) B.len PySem.boot_len (pa_cons (pe_ix ix_tup (pe_fld (pv 0) rfl) (pv 1) (fun _ _ => rfl)) pa_nil)) (pe_op op_add (pe_op op_add (pv 2) pe_int) (pe_callB call_len_str (by rfl) B.len PySem.boot_len (pa_cons (pv 4) pa_nil))) (nomark _))
    (pss_one ps_never)
    pss_nil)
  (pss_one (ps_expr (pe_bm PySem.F.plainAttrs_list PySem.F.slot_list_append PySem.F.type_list_append mt_append (pe_fld (pv 0) rfl) (pa_cons (pe_tup (pa_cons (pv 3) (pa_cons (pv 4) pa_nil))) pa_nil))))))))))))), ?_⟩
  have hn0 : ∀ {m : Str}, ¬ ("rows" : Str) = m → ¬ ("waiting" : Str) = m → ¬ ("lines" : Str) = m → (df a wl ll).lookup m = none := fun h1 h2 h3 => df_no _ _ _ h1 h2 h3
  have tl : t.length = pre.length + (S.length + (1 + n.cps.toList.length)) := by rw [et, List.length_append, List.length_append, List.length_cons]; omega
  refine ⟨_, rfl, r, dx, _, rfl, R.ob, hn0 (by decide +kernel) (by decide +kernel) (by decide +kernel), _, rfl, r, i, pre.length, t, rows, W, W1, L, H0, rfl, R.at, ht, by omega, hb, fun H1 R1 => ?_⟩
  refine ⟨fun m σ' H' => ∃ k, k ≤ S.length ∧ m = S.length - k ∧ σ' = [some (.ref r), some (.int i), some (.int ((pre.length + k : Nat) : Int)), some (.str (SX.S (S.take k))), none, none] ∧ DrAt K CR H0 H' r rows (W1 ++ plus pre.length (S.take k)) L, ⟨_, 0, Nat.zero_le _, rfl, rfl, by rw [List.take_zero]; show DrAt K CR H0 H1 r rows (W1 ++ []) L; rw [List.append_nil]; exact R1⟩, ?_⟩
  rintro m σ' H2 ⟨k, hk, rfl, rfl, dx2, a2, wl2, ll2, ls2, R2⟩
  refine ⟨_, rfl, r, dx2, _, rfl, R2.ob, df_no _ _ _ (by decide +kernel) (by decide +kernel) (by decide +kernel), _, rfl, _, rfl, r, i, pre.length + k, t, rows, _, L, H0, rfl, R2.at, ht, by omega, ?_⟩
  refine ⟨(by show 3 ≤ sizeLine; decide), fun p hp => ?_⟩
  generalize z1 : upd H2 p _ = H3
  obtain ⟨g3, e3⟩ := hA_gr z1 hp
  have R3 := R2.grow g3
  by_cases hkl : k < S.length
  · have hsk : t[pre.length + k]? = some S[k] := by rw [et]; exact get_mid (List.getElem?_eq_getElem hkl)
    rw [sig_get hsk]
    refine ⟨p, _, rfl, .inr (SqT.of e3), rfl, rfl, _, rfl, ?_⟩
    rw [if_neg (by decide), show SX.S [S[k]] = ⟨#[S[k]]⟩ from rfl, in_stk, decide_eq_true (hs.1 _ (List.getElem_mem hkl))]
    refine iteT ?_
    have et1 : S.take k ++ [S[k]] = S.take (k + 1) := (List.take_succ_eq_append_getElem hkl).symm
    refine ⟨fun σ' H' => σ' = [some (.ref r), some (.int i), some (.int ((pre.length + (k + 1) : Nat) : Int)), some (.str (SX.S (S.take (k + 1)))), none, none] ∧ DrAt K CR H0 H' r rows (W1 ++ plus pre.length (S.take (k + 1))) L, fun σ' H' ⟨e, R⟩ => ⟨S.length - (k + 1), by omega, k + 1, hkl, rfl, e, R⟩, ?_⟩
    refine ⟨_, rfl, _, rfl, r, dx2, _, rfl, R3.ob, df_no _ _ _ (by decide +kernel) (by decide +kernel) (by decide +kernel), _, rfl, _, rfl, r, i, pre.length + k, t, rows, _, L, H0, rfl, R3.at, ht, by omega, ?_⟩
    rw [sig_get hsk]
    refine ⟨_, _, rfl, rfl, by rw [SX.S_len, SX.S_len, List.length_take]; exact szle (m := 3000) (by show _ + 1 ≤ 3000; omega) (by omega), ?_⟩
    rw [SX.S_cat, et1]
    refine ⟨fun σ' H' => σ' = [some (.ref r), some (.int i), some (.int ((pre.length + k : Nat) : Int)), some (.str (SX.S (S.take (k + 1)))), none, none] ∧ DrAt K CR H0 H' r rows (W1 ++ plus pre.length (S.take (k + 1))) L, ?_, ?_⟩
    · have hpl : plus pre.length (S.take (k + 1)) = plus pre.length (S.take k) ++ plus (pre.length + k) [S[k]] := by
        rw [← et1, plus_app, List.length_take, show min k S.length = k by omega]
      refine ⟨_, rfl, 1, rfl, _, -1, S[k], rfl, rfl, by rw [SX.S_len, List.length_take]; exact szle (m := 3000) (by omega) (by omega), by rw [← et1]; exact atI_last _ _, ?_⟩
      refine ⟨rfl, _, rfl, ?_⟩
      rw [z_pp, one_eq]
      by_cases h43 : S[k] = 43
      · rw [decide_eq_true h43]
        refine iteT ?_
        refine ⟨_, rfl, r, CR, dx2, _, _, rfl, R3.ob, T.cl, T.nW, df_waiting _ _ _, .inl ⟨rfl, _, .inl (.inl R3.wt)⟩, _, rfl, wl2, _, _, rfl, rfl, R3.wt, ?_, ?_⟩
        · have := plus_len (S.take k) pre.length
          rw [List.length_take] at this
          rw [List.length_map, List.length_append]
          exact szlt (m := 90000) (by omega) (by omega)
        · rw [h43] at hpl
          have := R3.setW ((W1 ++ plus pre.length (S.take k)) ++ [pre.length + k])
          rw [hpl, ← List.append_assoc]
          unfold wts at this ⊢
          rw [List.map_append] at this
          exact ⟨rfl, this.at⟩
      · rw [decide_eq_false h43]
        refine iteF ⟨rfl, ?_⟩
        have e0 : plus (pre.length + k) [S[k]] = [] := by rw [plus_cons, if_neg h43]; rfl
        rw [hpl, e0, List.append_nil]
        exact R3.at
    · rintro σ' H' ⟨rfl, R4⟩
      exact ⟨_, rfl, _, 1, rfl, rfl, rfl, R4⟩
  · have hk2 : k = S.length := by omega
    subst hk2
    have h32 : t[pre.length + S.length]? = some 32 := by
      have := get_mid (A := pre ++ S) (B := [32]) (C := n.cps.toList) (k := 0) (x := 32) rfl
      rw [List.length_append, List.append_assoc] at this
      rw [et]; exact this
    rw [sig_get h32]
    refine ⟨p, _, rfl, .inr (SqT.of e3), rfl, rfl, _, rfl, ?_⟩
    rw [if_neg (by decide), show SX.S [32] = ⟨#[32]⟩ from rfl, in_stk, decide_eq_false (by decide : ¬ (32 = 45 ∨ 32 = 42 ∨ 32 = 43))]
    refine iteF ?_
    rw [List.take_length] at R3 ⊢
    obtain ⟨S1, eS⟩ : ∃ S1, S = S1 ++ [45] := by
      have hl := hs.2
      cases S with
      | nil => cases hl
      | cons x y => exact ⟨(x :: y).dropLast, by rw [List.getLast?_eq_some_getLast (List.cons_ne_nil _ _)] at hl; rw [← Option.some.inj hl]; exact (List.dropLast_concat_getLast _).symm⟩
    have el : cutS (SX.S S) (some (-1)) none = SX.S [45] := by rw [eS, C8.cutS_slice]; exact SX.last_snoc _ _
    refine ⟨_, rfl, 1, rfl, _, rfl, _, rfl, by rw [SX.S_len]; exact szle (m := 3000) (by omega) (by omega), ?_⟩
    rw [el]
    refine ⟨rfl, _, rfl, ?_⟩
    rw [z_mi, show SX.S [45] = ⟨#[45]⟩ from rfl]
    refine iteNS rfl ?_
    refine ⟨_, rfl, r, dx2, _, rfl, R3.ob, df_no _ _ _ (by decide +kernel) (by decide +kernel) (by decide +kernel), _, rfl, _, rfl, r, i, pre.length + S.length, t, rows, _, L, H0, rfl, R3.at, ht, by omega, ?_⟩
    rw [sig_get h32]
    refine ⟨rfl, _, rfl, ?_⟩
    rw [z_sp]
    refine iteNS rfl ?_
    obtain ⟨c, hc, hcd⟩ := hn
    have hc1 : t[pre.length + S.length + 1]? = some c := by
      have := get_mid (A := pre ++ S ++ [32]) (B := n.cps.toList) (C := []) (k := 0) (x := c) (by rcases hcd with e | ⟨d, _, e⟩ <;> rw [e] <;> rfl)
      rw [List.append_nil, List.length_append, List.length_append, List.append_assoc, List.append_assoc] at this
      rw [et]; exact this
    refine ⟨_, rfl, r, dx2, _, rfl, R3.ob, df_no _ _ _ (by decide +kernel) (by decide +kernel) (by decide +kernel), _, rfl, _, rfl, _, 1, rfl, rfl, r, i, pre.length + S.length + 1, t, rows, _, L, H0, rfl, R3.at, ht, by omega, ?_⟩
    rw [sig_get hc1]
    refine ⟨_, rfl, true, ⟨by rw [SX.S_len]; exact szle (m := 3000) (by show 1 ≤ 3000; omega) (by omega), rfl⟩, iteF ?_⟩
    refine ⟨_, rfl, c, _, rfl, rfl, _, rfl, ?_⟩
    rw [in_small, hc]
    refine iteF ?_
    refine ⟨_, rfl, r, dx2, _, rfl, R3.ob, df_no _ _ _ (by decide +kernel) (by decide +kernel) (by decide +kernel), _, rfl, _, rfl, _, 2, rfl, rfl, r, i, pre.length + S.length + 2, t, rows, _, L, H0, rfl, R3.at, ht, by omega, ?_⟩
    refine ⟨fun σ' H' => ∃ v5, σ' = [some (.ref r), some (.int i), some (.int ((pre.length + S.length : Nat) : Int)), some (.str (SX.S S)), some (.str n), v5] ∧ H' = H3, ?_, ?_⟩
    · rcases hcd with en | ⟨d, hd, en⟩
      · rw [sig_non (by rw [tl, en]; show _ + (_ + 2) ≤ _; omega)]
        refine ⟨_, rfl, false, ⟨by decide, by decide +kernel⟩, iteF (iteF ⟨some (.str (SX.S [])), ?_, rfl⟩)⟩
        have hN : SX.S [c] = n := by rw [← en]
        rw [← hN]; rfl
      · have hd1 : t[pre.length + S.length + 2]? = some d := by
          have := get_mid (A := pre ++ S ++ [32]) (B := n.cps.toList) (C := []) (k := 1) (x := d) (by rw [en]; rfl)
          rw [List.append_nil, List.length_append, List.length_append, List.append_assoc, List.append_assoc] at this
          rw [et]; exact this
        rw [sig_get hd1]
        refine ⟨_, rfl, true, ⟨by rw [SX.S_len]; exact szle (m := 3000) (by show 1 ≤ 3000; omega) (by omega), rfl⟩, iteT ?_⟩
        refine ⟨_, rfl, d, _, rfl, rfl, _, rfl, ?_⟩
        rw [in_digit, hd]
        refine iteT ⟨_, rfl, _, rfl, _, _, rfl, rfl, by rw [SX.S_len, SX.S_len]; exact szle (m := 3000) (by show 1 + 1 ≤ 3000; omega) (by omega), some (.str (SX.S [d])), ?_, rfl⟩
        have hN : SX.S [c, d] = n := by rw [← en]
        rw [SX.S_cat, ← hN]; rfl
    · rintro σ' H' ⟨v5, rfl, rfl⟩
      refine ⟨_, rfl, r, CR, dx2, _, _, rfl, R3.ob, T.cl, T.nR, df_rows _ _ _, _, rfl, a2, _, _, _, rfl, rfl, R3.ra, atI_nat (j := i) (v := .str (SX.S t)) (by rw [List.getElem?_map, ht]; rfl), ?_⟩
      have nl : n.length = n.cps.toList.length := by show n.cps.size = _; rw [Array.length_toList]
      refine ⟨_, rfl, by rw [SX.S_len]; exact szle (m := 3000) (by omega) (by omega), _, rfl, _, 1, rfl, rfl, _, rfl, _, rfl, by rw [nl]; exact szle (m := 3000) (by omega) (by omega), _, _, rfl, rfl, _, _, rfl, rfl, _, rfl, ?_⟩
      rw [decide_eq_false (by rw [show (SX.S t).length = t.length from SX.S_len t, nl, tl]; omega)]
      refine iteF ?_
      refine ⟨_, rfl, r, CR, dx2, _, _, rfl, R3.ob, T.cl, T.nL, df_lines _ _ _, .inl ⟨rfl, _, .inl (.inl R3.li)⟩, _, rfl, _, rfl, (by show 2 ≤ sizeLine; decide), fun p2 hp2 => ?_⟩
      generalize z2 : upd H' p2 _ = H4
      obtain ⟨g4, e4⟩ := hA_gr z2 hp2
      have R4 := R3.grow g4
      have ll3 := R3.dl.len
      rw [List.length_map] at ll3
      refine ⟨ll2, _, _, rfl, rfl, R4.li, by rw [ll3]; exact szlt hL (by omega), ?_⟩
      refine q _ (R4.setL (ls' := ls2 ++ [.ref p2]) ?_).at
      rw [List.map_append]
      exact DtAll.app R4.dl (.cons (.tup (SqT.of e4) (.cons (.str _) (.cons (.str _) .nil))) .nil)
abbrev N_Reader_formula : List Str := ["self", "strokes", "name", "formula", "stroke"]
theorem sc_Reader_formula : FnScope N_Reader_formula ["self"] (defScope s_Reader_formula) := ⟨rfl, rfl, rfl, by decide +kernel, rfl, by decide +kernel, by decide +kernel⟩
/-- the data stay -/
def Kp (K : PySem.W.Frag) (H H' : Hp) : Prop := ∀ v d, Dt K H v d → Dt K H' v d
def sp_Dg (K : PySem.W.Frag) (CR : Addr) (n : Nat) : Sp := fun vs H Q _ => ∃ (r : Addr) (S : List Nat) (nm : Str) (L M : List Line) (g : Fm) (rows : List Row) (W : List Nat) (H0 : Hp), vs = [.ref r] ∧ DrAt K CR H0 H r rows W ((S, nm) :: L) ∧ Pr S.reverse (.lt nm) L g M ∧ L.length < n ∧
  (∀ l ∈ (S, nm) :: L, l.1.length ≤ 1000) ∧ L.length ≤ 50000 ∧ ∀ (v : V) (H' : Hp), Kp K H H' → DrAt K CR H0 H' r rows W M → FmV K H' v g → Q v H'
theorem seq0 (n : Nat) : seqIndex? 0 (n + 1) = some 0 := by
  have h : (0 : Int) < (n : Int) + 1 := by omega
  simp [seqIndex?, h]
theorem Pr.sub {R : List Nat} {f g : Fm} {L M : List Line} (x : Pr R f L g M) : ∀ l ∈ M, l ∈ L := by
  induction x with
  | nil => exact fun l h => h
  | dash _ ih => exact ih
  | star _ ih => exact ih
  | plus _ _ ih1 ih2 => exact fun l h => List.mem_cons_of_mem _ (ih1 l (ih2 l h))
theorem st_Dg {CR : Addr} {n : Nat} (B : Bn mg) (T : TD K CR) (D : Dm K CR "formula" "Reader.formula" s_Reader_formula ["self"]) (c_formula : Ml CX0 P w K mg base n CR "formula" (sp_Dg K CR n)) : Ml CX0 P w K mg base (n + 1) CR "formula" (sp_Dg K CR (n + 1)) := by
  refine D.ok sc_Reader_formula (fun vs H Q E h => ?_) (fun f cdv A outer s H vs Q E hr h => ?_)
  · obtain ⟨r, S, nm, L, M, g, rows, W, H0, rfl, _⟩ := h
    rfl
  obtain ⟨r, S, nm, L, M, g, rows, W, H0, rfl, ⟨dx, a, wl, ll, ls, R⟩, hp, hn, hl, hL, q⟩ := h
  refine ⟨_, (pss_cons (ps_asg (pe_bm PySem.F.plainAttrs_list PySem.F.slot_list_pop PySem.F.type_list_pop mt_popAt (pe_fld (pv 0) rfl) (pa_cons pe_int pa_nil)) (pg_tup (by rfl) (pgs_cons (pg_name (i := 1) sc_Reader_formula.nd rfl (by first | exact Or.inl rfl | exact Or.inr rfl)) (pgs_cons (pg_name (i := 2) sc_Reader_formula.nd rfl (by first | exact Or.inl rfl | exact Or.inr rfl)) pgs_nil))))
  (pss_cons (ps_set (i := 3) sc_Reader_formula.nd rfl (by first | exact Or.inl rfl | exact Or.inr rfl) (pe_tup (pa_cons pe_str (pa_cons (pv 2) pa_nil))))
  (pss_cons (ps_for PassesOwn.never rfl (pi_str (pe_revS (pv 1))) (pg_name (i := 4) sc_Reader_formula.nd rfl (by first | exact Or.inl rfl | exact Or.inr rfl))
    (pss_one (ps_if (pt_cmpR op_eq (pv 4) pe_str (nomark _))
    (pss_one (ps_set (i := 3) sc_Reader_formula.nd rfl (by first | exact Or.inl rfl | exact Or.inr rfl) (pe_tup (pa_cons pe_str (pa_cons (pv 3) pa_nil)))))
    (pss_one (ps_if (pt_cmpR op_eq (pv 4) pe_str (nomark _))
    (pss_one (ps_set (i := 3) sc_Reader_formula.nd rfl (by first | exact Or.inl rfl | exact Or.inr rfl) (pe_tup (pa_cons pe_str (pa_cons (pm0 T.cl c_formula hr (by omega) ps0 (pv 0)) (pa_cons (pv 3) pa_nil))))))
    pss_nil)))))
  (pss_one (ps_ret (pv 3)))))), ?_⟩
  have hls := R.dl
  cases hls with
  | @cons v1 ls1 _ _ hv hls1 =>
    obtain ⟨b, xs, rfl, hb, hxs⟩ := hv.tupI
    cases hxs with
    | cons x1 x2 =>
    cases x2 with
    | cons x2 x3 =>
    cases x3; cases x1; cases x2
    refine ⟨_, rfl, r, CR, dx, _, _, rfl, R.ob, T.cl, T.nL, df_lines _ _ _, .inl ⟨rfl, _, .inl (.inl R.li)⟩, ll, _, 0, 0, _, rfl, rfl, R.li, by decide, by decide, ?_, rfl, ?_⟩
    · exact seq0 ls1.length
    rw [show (V.ref b :: ls1).eraseIdx 0 = ls1 from rfl]
    have g1 : Gx [ll] H (upd H ll (.lst ls1)) := Gx.set R.li rfl
    have R1 : DrX K CR H0 (upd H ll (.lst ls1)) r rows W L dx a wl ll ls1 := R.setL hls1
    refine ⟨b, _, rfl, g1.sqT hb, rfl, _, _, rfl, _, _, rfl, rfl, ?_⟩
    refine ⟨_, rfl, (by show 2 ≤ sizeLine; decide), fun p hp0 => ?_⟩
    generalize z1 : upd (upd H ll (.lst ls1)) p _ = H2
    obtain ⟨g2, e2⟩ := hA_gr z1 hp0
    refine ⟨_, rfl, S, rfl, szle (m := 1000) (hl _ List.mem_cons_self) (by omega), _, rfl, for_str (t := S.reverse) (fun i σ H' => ∃ v u f1 L1, σ = [some (.ref r), some (.str (SX.S S)), some (.str nm), some u, v] ∧ Kp K H H' ∧ DrAt K CR H0 H' r rows W L1 ∧ FmV K H' u f1 ∧ Pr (S.reverse.drop i) f1 L1 g M ∧ L1.length ≤ L.length ∧ (∀ l ∈ L1, l ∈ L))
      ⟨none, .ref p, .lt nm, L, rfl, fun v d h => g2.dt (g1.dt h), (R1.grow g2).at, mk_lt (SqT.of e2), hp, Nat.le_refl _, fun l h => h⟩ ?_ ?_⟩
    · rintro i c σ H3 hc ⟨v, u, f1, L1, rfl, k1, ⟨dx1, a1, wl1, ll1, ls3, R3⟩, hu, hpr, hll, hsub⟩
      obtain ⟨hil, hci⟩ := List.getElem?_eq_some_iff.mp hc
      rw [List.drop_eq_getElem_cons hil, hci] at hpr
      refine ⟨_, rfl, rfl, _, rfl, ?_⟩
      rw [z_st, one_eq]
      by_cases h42 : c = 42
      · rw [decide_eq_true h42]
        subst h42
        refine iteT ?_
        cases hpr with
        | star hpr =>
          refine ⟨_, rfl, (by show 2 ≤ sizeLine; decide), fun p2 hp2 => ?_⟩
          generalize z2 : upd H3 p2 _ = H4
          obtain ⟨g4, e4⟩ := hA_gr z2 hp2
          exact ⟨_, .ref p2, .ng f1, L1, rfl, fun v d h => g4.dt (k1 v d h), (R3.grow g4).at, mk_ng (SqT.of e4) (g4.dt hu), hpr, hll, hsub⟩
      · rw [decide_eq_false h42]
        refine iteF ?_
        refine ⟨_, rfl, rfl, _, rfl, ?_⟩
        rw [z_pp, one_eq]
        by_cases h43 : c = 43
        · rw [decide_eq_true h43]
          subst h43
          refine iteT ?_
          cases hpr with
          | @plus _ S2 n2 _ _ h2 L2 M2 _ hpa hpr =>
            have hl2 : L2.length + 1 ≤ L.length := hll
            refine ⟨_, rfl, r, dx1, _, rfl, R3.ob, df_no _ _ _ (by decide +kernel) (by decide +kernel) (by decide +kernel), r, S2, n2, L2, M2, h2, rows, W, H0, rfl, R3.at, hpa, by omega, fun l h => hl _ (List.mem_cons_of_mem _ (hsub l h)), by omega, fun v2 H4 k4 R4 hv2 => ?_⟩
            obtain ⟨dx5, a5, wl5, ll5, ls5, R5⟩ := R4
            refine ⟨_, rfl, (by show 3 ≤ sizeLine; decide), fun p2 hp2 => ?_⟩
            generalize z2 : upd H4 p2 _ = H5
            obtain ⟨g5, e5⟩ := hA_gr z2 hp2
            have hm := hpa.len
            exact ⟨_, .ref p2, .im h2 f1, M2, rfl, fun v d h => g5.dt (k4 _ _ (k1 v d h)), (R5.grow g5).at, mk_im (SqT.of e5) (g5.dt hv2) (g5.dt (k4 _ _ hu)), hpr, by omega, fun l h => hsub l (List.mem_cons_of_mem _ (hpa.sub l h))⟩
        · rw [decide_eq_false h43]
          refine iteF ?_
          cases hpr with
          | dash hpr => exact ⟨_, u, f1, L1, rfl, k1, R3.at, hu, hpr, hll, hsub⟩
          | star _ => exact absurd rfl h42
          | plus _ _ => exact absurd rfl h43
    · rintro σ H3 ⟨v, u, f1, L1, rfl, k1, R3, hu, hpr, hll, hsub⟩
      rw [List.drop_length] at hpr
      cases hpr
      exact ⟨_, rfl, q u H3 k1 R3 hu⟩
theorem ok_Dg {CR : Addr} (B : Bn mg) (T : TD K CR) (D : Dm K CR "formula" "Reader.formula" s_Reader_formula ["self"]) : ∀ n : Nat, Ml CX0 P w K mg base n CR "formula" (sp_Dg K CR n)
  | 0 => D.none fun vs H Q E ⟨_, _, _, L, _, _, _, _, _, _, _, _, h, _⟩ => absurd h (Nat.not_lt_zero _)
  | n + 1 => st_Dg B T D (ok_Dg B T D n)
abbrev N_Reader_read : List Str := ["self", "row"]
theorem sc_Reader_read : FnScope N_Reader_read ["self"] (defScope s_Reader_read) := ⟨rfl, rfl, rfl, by decide +kernel, rfl, by decide +kernel, by decide +kernel⟩
theorem Rws.bnd {W W' : List Nat} {R : List Row} {L : List Line} {b : Nat} (x : Rws W R W' L) (h : ∀ t ∈ R, t.length ≤ b) : ∀ l ∈ L, l.1.length ≤ b := by
  induction x with
  | nil => exact fun l h => nomatch h
  | @cons _ _ _ S n _ _ a1 a2 a3 _ ih =>
    intro l hl
    rcases List.mem_cons.mp hl with rfl | hl
    · have := h _ List.mem_cons_self
      rw [List.length_append, List.length_cons, List.length_append] at this
      show S.length ≤ b
      omega
    · exact ih (fun t m => h t (List.mem_cons_of_mem _ m)) l hl
def sp_De (K : PySem.W.Frag) (CR : Addr) (n : Nat) : Sp := fun vs H Q _ => ∃ (r : Addr) (rows Rs : List Row) (S : List Nat) (nm : Str) (L : List Line) (g : Fm) (H0 : Hp), vs = [.ref r] ∧ DrAt K CR H0 H r rows [] [] ∧ rows = (S ++ 32 :: nm.cps.toList) :: Rs ∧ Sok S ∧ Nm nm ∧ Rws (plus 0 S) Rs [] L ∧ Pr S.reverse (.lt nm) L g [] ∧
  rows.length ≤ 100 ∧ (∀ t ∈ rows, t.length ≤ 500) ∧ rows.length ≤ n ∧ ∀ (v : V) (H' : Hp), Gr H0 H' → FmV K H' v g → Q v H'
theorem ok_De {CR : Addr} {n : Nat} (B : Bn mg) (T : TD K CR) (D : Dm K CR "read" "Reader.read" s_Reader_read ["self"]) (c_read_row : Ml CX0 P w K mg base 3 CR "read_row" (sp_Dr K CR)) (c_formula : Ml CX0 P w K mg base (n + 3) CR "formula" (sp_Dg K CR (n + 3))) : Ml CX0 P w K mg base (n + 4) CR "read" (sp_De K CR n) := by
  refine D.ok sc_Reader_read (fun vs H Q E h => ?_) (fun f cdv A outer s H vs Q E hr h => ?_)
  · obtain ⟨r, rows, Rs, S, nm, L, g, H0, rfl, _⟩ := h
    rfl
  obtain ⟨r, rows, Rs, S, nm, L, g, H0, rfl, ⟨dx, a, wl, ll, ls, R⟩, er, hS, hnm, hrw, hpr, hz, hb, hn, q⟩ := h
  refine ⟨_, (pss_cons (ps_for PassesOwn.never rfl (pi_range1 (by rfl) B.range (pa_cons (pe_callB call_len_seq (by rfl) B.len PySem.boot_len (pa_cons (pe_fld (pv 0) rfl) pa_nil)) pa_nil)) (pg_name (i := 1) sc_Reader_read.nd rfl (by first | exact Or.inl rfl | exact Or.inr rfl))
    (pss_one (ps_expr (pm T.cl c_read_row hr (by omega) ps0 (pv 0) (pa_cons (pv 1) pa_nil)))))
  (pss_cons (ps_if (PW.pt (pw_or (pt_truth (pe_fld (pv 0) rfl) (by intro _; rfl)) (pw_or1 (pt_not (pt_truth (pe_fld (pv 0) rfl) (by intro _; rfl))))))
    (pss_one ps_never)
    pss_nil)
  (pss_one (ps_ret (pm0 T.cl c_formula hr (by omega) ps0 (pv 0)))))), ?_⟩
  have rl : (rows.map fun t => V.str (SX.S t)).length = rows.length := List.length_map _
  refine ⟨_, rfl, r, CR, dx, _, _, rfl, R.ob, T.cl, T.nR, df_rows _ _ _, a, _, rfl, .inr R.ra, _, rfl, by rw [rl]; omega, by rw [rl]; omega, for_range (lo := 0) (n := (((rows.map fun t => V.str (SX.S t)).length : Int)).toNat)
    (fun i σ H' => ∃ v W L1, σ = [some (.ref r), v] ∧ DrAt K CR H0 H' r rows W L1 ∧ L1.length = i ∧ W.length ≤ i * 500 ∧ ((i = 0 ∧ W = [] ∧ L1 = []) ∨ (0 < i ∧ ∃ L2, Rws W (rows.drop i) [] L2 ∧ (S, nm) :: L = L1 ++ L2)))
    ⟨none, [], [], rfl, R.at, rfl, Nat.zero_le _, .inl ⟨rfl, rfl, rfl⟩⟩ ?_ ?_⟩
  · rintro i σ H1 hi ⟨v, W, L1, rfl, ⟨dx1, a1, wl1, ll1, ls1, R1⟩, hl1, hW, hc⟩
    rw [Int.toNat_natCast, rl] at hi
    rw [Int.zero_add]
    have ht : rows[i]? = some rows[i] := List.getElem?_eq_getElem hi
    have hb1 := hb _ (List.getElem_mem hi)
    have hW2 : i * 500 ≤ 49500 := by omega
    refine ⟨_, rfl, r, dx1, _, rfl, R1.ob, df_no _ _ _ (by decide +kernel) (by decide +kernel) (by decide +kernel), _, rfl, ?_⟩
    rcases hc with ⟨rfl, rfl, rfl⟩ | ⟨hi0, L2, hrw2, eL⟩
    · have e0 : rows[0] = [] ++ (S ++ 32 :: nm.cps.toList) := by simp only [er]; rfl
      refine ⟨r, 0, rows[0], [], S, nm, rows, [], [], [], H0, rfl, R1.at, ht, by omega, .inl ⟨rfl, rfl, rfl⟩, e0, hS, hnm, Nat.zero_le _, Nat.zero_le _, fun H2 R2 => ⟨_, _, _, rfl, R2, rfl, ?_, .inr ⟨Nat.zero_lt_one, L, by rw [er]; exact hrw, rfl⟩⟩⟩
      have := plus_len S 0
      rw [e0, List.nil_append, List.length_append] at hb1
      show ([] ++ plus 0 S).length ≤ (0 + 1) * 500
      rw [List.nil_append]; omega
    · rw [List.drop_eq_getElem_cons hi] at hrw2
      generalize et : rows[i] = t at hrw2 hb1 ht
      cases hrw2 with
      | @cons W1 _ c S2 n2 _ L3 hlt hS2 hn2 hrw3 =>
        have pl : (pfx W1 c ++ [96]).length = c + 1 := by rw [List.length_append, pfx_len]; rfl
        have e1 : pfx W1 c ++ 96 :: (S2 ++ 32 :: n2.cps.toList) = (pfx W1 c ++ [96]) ++ (S2 ++ 32 :: n2.cps.toList) := by rw [List.append_assoc]; rfl
        rw [List.length_append, List.length_singleton] at hW
        have hb2 := hb1
        rw [List.length_append, List.length_cons, List.length_append] at hb2
        refine ⟨r, i, _, pfx W1 c ++ [96], S2, n2, rows, _, W1, L1, H0, rfl, R1.at, ht, by omega, .inr ⟨hi0, c, _, rfl, rfl, pl⟩, e1, hS2, hn2, by omega, by omega, fun H2 R2 => ⟨_, _, _, rfl, R2, by rw [List.length_append, hl1]; rfl, ?_, .inr ⟨Nat.succ_pos _, L3, ?_, ?_⟩⟩⟩
        · have := plus_len S2 (pfx W1 c ++ [96]).length
          rw [List.length_append]; omega
        · rw [pl]; exact hrw3
        · rw [eL, List.append_assoc]; rfl
  · rintro σ H1 ⟨v, W, L1, rfl, ⟨dx1, a1, wl1, ll1, ls1, R1⟩, hl1, hW, hc⟩
    rw [Int.toNat_natCast, rl] at hl1 hW hc
    have pos : 0 < rows.length := by rw [er]; exact Nat.succ_pos _
    rcases hc with ⟨h0, _⟩ | ⟨_, L2, hrw2, eL⟩
    · omega
    rw [List.drop_length] at hrw2
    cases hrw2
    rw [List.append_nil] at eL
    subst eL
    refine ⟨_, rfl, r, CR, dx1, _, _, rfl, R1.ob, T.cl, T.nW, df_waiting _ _ _, false, .inl ⟨_, SqL.of R1.wt, rfl⟩, iteF ?_⟩
    refine ⟨_, rfl, r, CR, dx1, _, _, rfl, R1.ob, T.cl, T.nR, df_rows _ _ _, true, .inr (.inl ⟨_, R1.ra, by rw [er]; rfl⟩), iteF ?_⟩
    have hL : L.length + 1 = rows.length := hl1
    refine ⟨_, rfl, r, dx1, _, rfl, R1.ob, df_no _ _ _ (by decide +kernel) (by decide +kernel) (by decide +kernel), r, S, nm, L, [], g, rows, [], H0, rfl, R1.at, hpr, by omega, fun l hl => ?_, by omega, fun v2 H2 k2 ⟨_, _, _, _, _, R2⟩ hv => q v2 H2 R2.gr hv⟩
    have hS1 : S.length ≤ 500 := by
      have := hb _ (by rw [er]; exact List.mem_cons_self)
      rw [List.length_append] at this; omega
    rcases List.mem_cons.mp hl with rfl | hl
    · exact Nat.le_trans hS1 (by decide)
    · exact Nat.le_trans (hrw.bnd (b := 500) (fun t m => hb t (by rw [er]; exact List.mem_cons_of_mem _ m)) l hl) (by decide)
abbrev N_read_drawing : List Str := ["rows"]
theorem sc_read_drawing : FnScope N_read_drawing ["rows"] (defScope s_read_drawing) := ⟨rfl, rfl, rfl, by decide +kernel, rfl, by decide +kernel, by decide +kernel⟩
def sp_Dd (K : PySem.W.Frag) (n : Nat) : Sp := fun vs H Q _ => ∃ (a : Addr) (rows : List Row) (g : Fm), vs = [.ref a] ∧ SqT K H a (rows.map fun t => V.str (SX.S t)) ∧ LD g rows ∧ Named g ∧ rows.length ≤ 100 ∧ (∀ t ∈ rows, t.length ≤ 500) ∧ rows.length ≤ n ∧
  ∀ (v : V) (H' : Hp), Gr H H' → FmV K H' v g → Q v H'
theorem ok_Dd {CR : Addr} {n : Nat} (B : Bn mg) (T : TD K CR) (D : Df K mg "read_drawing" s_read_drawing ["rows"]) (c_read : Ml CX0 P w K mg base (n + 4) CR "read" (sp_De K CR n)) (c_Reader : Mm CX0 P w K mg base 1 "Reader" CR (sp_Di K CR)) :
    Cl CX0 P w K mg base (n + 5) "read_drawing" (sp_Dd K n) := by
  refine D.ok sc_read_drawing (fun vs H Q E h => ?_) (fun f cdv A outer s H vs Q E hr h => ?_)
  · obtain ⟨a, rows, g, rfl, _⟩ := h
    rfl
  obtain ⟨a, rows, g, rfl, ha, hd, hnm, hz, hb, hn, q⟩ := h
  refine ⟨_, (pss_one (ps_ret (pm0 T.cl c_read hr (by omega) ps0 (pk c_Reader hr (by omega) rfl ps0 (pa_cons (pv 0) pa_nil))))), ?_⟩
  obtain ⟨S, nm, Rs, L, De⟩ := hd.dec hnm
  have hrw := De.r 0 [] (fun j m => nomatch m)
  have e1 : Rs.map (pfx [] 0 ++ ·) = Rs := by
    rw [show pfx [] 0 = [] from rfl]
    simp
  rw [e1, List.nil_append] at hrw
  have hp := De.p []
  rw [List.append_nil] at hp
  refine ⟨_, rfl, fun r dx nr nd ne => ?_⟩
  have gm := gr_made (C := CR) nr nd ne
  refine ⟨r, dx, a, rows, H, rfl, upd_same, gm, nr, gm.sqT ha, fun H' R => ⟨rfl, ?_⟩⟩
  obtain ⟨dx', a', wl, ll, ls, R'⟩ := id R
  exact ⟨r, dx', _, rfl, R'.ob, df_no _ _ _ (by decide +kernel) (by decide +kernel) (by decide +kernel), r, rows, Rs, S, nm, L, g, H, rfl, R, De.e, De.s, De.nn, hrw, hp, hz, hb, hn, q⟩
theorem n6_nm {x : Str} (h : x ∈ N6) : Nm x := by
  have e : ∀ y ∈ N6, y.cps.toList = [97] ∨ y.cps.toList = [98] ∨ y.cps.toList = [122] ∨ y.cps.toList = [99, 55] ∨ y.cps.toList = [97, 48] ∨ y.cps.toList = [109, 57] := by decide +kernel
  rcases e x h with e | e | e | e | e | e
  · exact ⟨97, rfl, .inl e⟩
  · exact ⟨98, rfl, .inl e⟩
  · exact ⟨122, rfl, .inl e⟩
  · exact ⟨99, rfl, .inr ⟨55, rfl, e⟩⟩
  · exact ⟨97, rfl, .inr ⟨48, rfl, e⟩⟩
  · exact ⟨109, rfl, .inr ⟨57, rfl, e⟩⟩
theorem n6_len {x : Str} (h : x ∈ N6) : x.length ≤ 2 := (by decide +kernel : ∀ y ∈ N6, y.length ≤ 2) x h
theorem n6_ok {x : Str} (h : x ∈ N6) : PyData.strOk x = true := (by decide +kernel : ∀ y ∈ N6, PyData.strOk y = true) x h
theorem canLay_fm : ∀ f : Fm, (∀ x ∈ f.lets, PyData.strOk x = true) → f.d.canLay0 = true
  | .lt n, h => by
    have := h n (List.mem_singleton_self _)
    simp [Fm.d, PyData.canLay0, PyData.canLayAll0, this, (by decide +kernel : PyData.strOk (Str.ofString "letter") = true)]
  | .ng p, h => by
    have := canLay_fm p h
    simp [Fm.d, PyData.canLay0, PyData.canLayAll0, this, (by decide +kernel : PyData.strOk (Str.ofString "not") = true)]
  | .im p q, h => by
    have h1 := canLay_fm p fun x hx => h x (List.mem_append_left _ hx)
    have h2 := canLay_fm q fun x hx => h x (List.mem_append_right _ hx)
    simp [Fm.d, PyData.canLay0, PyData.canLayAll0, h1, h2, (by decide +kernel : PyData.strOk (Str.ofString "if") = true)]
theorem shaped_fm {f : Fm} (h : ∀ x ∈ f.lets, PyData.strOk x = true) (hd : f.depth ≤ 64) : SeqAt.shaped f.d = true := by
  unfold SeqAt.shaped
  rw [canLay_fm f h, Fm.d_depth, decide_eq_true hd]; rfl
theorem run_det {t : List Nat} {a b c : RS} (x : Run t a b) (y : Run t a c) (hb : stepS t b = none) (hc : stepS t c = none) : b = c := by
  induction x with
  | refl =>
    cases y with
    | refl => rfl
    | more h _ => rw [hb] at h; cases h
  | more h r ih =>
    cases y with
    | refl => rw [hc] at h; cases h
    | more h2 r2 =>
      rw [h] at h2; cases h2
      exact ih r2 hb
theorem step_end {t : List Nat} {gs : List Grp} {w : Bool} : stepS t ⟨t.length, gs, w⟩ = none := by
  unfold stepS
  rw [List.getElem?_eq_none_iff.mpr (Nat.le_refl _)]
theorem tx_inj {f g : Fm} (hf : Named f) (hg : Named g) (e : f.tx = g.tx) : f = g := by
  have a := read_tx hf
  have b := read_tx hg
  rw [← e] at b
  have := run_det a b step_end step_end
  have h : spine f = spine g := by
    injection this with _ h2 _
    exact (Prod.mk.inj (List.cons.inj h2).1).1
  rw [← grpF_spine f, ← grpF_spine g, h]
abbrev txs (R : List Row) : List V := R.map fun t => V.str (SX.S t)
def undS (A B : List Nat) : List Row → List Row
  | [] => []
  | r :: rs => (A ++ r) :: rs.map (B ++ ·)
abbrev N_Lunder : List Str := ["_law_rows", "_law_first", "_law_others", "_law_row"]
theorem sc_Lunder : FnScope N_Lunder ["_law_rows", "_law_first", "_law_others"] (defScope s_Lunder) := ⟨rfl, rfl, rfl, by decide +kernel, rfl, by decide +kernel, by decide +kernel⟩
def sp_Lunder : Sp := fun vs H Q _ => ∃ (a : Addr) (A B : List Nat) (R : List Row), vs = [.ref a, .str (SX.S A), .str (SX.S B)] ∧ H a = some (.lst (txs R)) ∧ R ≠ [] ∧ R.length ≤ 1000 ∧ (∀ t ∈ R, t.length ≤ 1000) ∧ A.length ≤ 10 ∧ B.length ≤ 10 ∧
  ∀ (c : Addr) (H' : Hp), Gr H H' → H' c = some (.lst (txs (undS A B R))) → Q (.ref c) H'
theorem ok_Lunder (B : Bn mg) (D : Df K mg "_law_under" s_Lunder ["_law_rows", "_law_first", "_law_others"]) : Cl CX0 P w K mg base 1 "_law_under" sp_Lunder := by
  refine D.ok sc_Lunder (fun vs H Q E h => ?_) (fun f cdv A outer s H vs Q E hr h => ?_)
  · obtain ⟨a, A, B, R, rfl, _⟩ := h
    rfl
  obtain ⟨a, A, B, R, rfl, ha, hne, hz, hb, hA, hB, q⟩ := h
  refine ⟨_, (pss_one (ps_ret (pe_op op_cat (pe_lst (pa_cons (pe_op op_add_str (pv 1) (pe_ix ix_list (pv 0) pe_int (fun _ _ => rfl))) pa_nil)) (pe_lc (own := [("_law_row", 3)]) rfl sc_Lunder.nd (pi_list (pe_slice sl_list (pv 0) (po_some pe_int) po_none)) (blkOk_by (N := N_Lunder) (sc := defScope s_Lunder) (by decide +kernel)) (fun _ _ _ _ _ => (pg_name (i := 3) sc_Lunder.nd rfl (by first | exact Or.inl rfl | exact Or.inr rfl))) (fun _ _ _ _ _ => pts_nil) (fun _ _ _ _ _ => (pe_op op_add_str (pv 2) (pv 3))))))), ?_⟩
  obtain ⟨r0, rs, rfl⟩ : ∃ r rs, R = r :: rs := by
    cases R with
    | nil => exact absurd rfl hne
    | cons r rs => exact ⟨r, rs, rfl⟩
  have b0 := hb r0 List.mem_cons_self
  refine ⟨_, rfl, _, rfl, a, _, _, _, rfl, rfl, SqL.of ha, at0, _, _, rfl, rfl, by rw [SX.S_len, SX.S_len]; exact szle (m := 2000) (by omega) (by omega), (by show 1 ≤ sizeLine; decide), fun p hp => ?_⟩
  rw [SX.S_cat]
  generalize z1 : upd H p _ = H1
  obtain ⟨g1, e1⟩ := hA_gr z1 hp
  refine ⟨_, rfl, 1, rfl, a, _, rfl, SqL.of (g1.lst ha (fun m => nomatch m)), fun c hc => ?_⟩
  have ec : cutV (txs (r0 :: rs)) (some 1) none = txs rs := by
    unfold cutV
    rw [show HT.sIx (txs (r0 :: rs)).length 0 (some 1) = 1 from (HT.sIx_nat _ 0 1).trans (by show min 1 ((txs rs).length + 1) = 1; omega), HT.sIx_none]
    show List.take (((txs rs).length + 1) - 1) (txs rs) = txs rs
    exact List.take_of_length_le (by omega)
  rw [ec]
  generalize z2 : upd H1 c _ = H2
  obtain ⟨g2, e2⟩ := hA_gr z2 hc
  refine ⟨c, rfl, ⟨_, SqL.of e2⟩, fun D hD => ?_⟩
  have lr : (txs rs).length = rs.length := List.length_map _
  refine lc_list (K := K) (a := c) (xs := txs rs) (fun i H' => Gr H2 H' ∧ H' D = some (.lst (txs ((rs.take i).map (B ++ ·))))) ⟨Gx.new hD, upd_same⟩ (fun i H' _ ⟨g, _⟩ => SqL.of (g.lst e2 (fun m => nomatch m))) ?_ ?_
  · rintro i x H' hi ⟨g, e⟩
    have hil : i < rs.length := by rw [← lr]; exact (List.getElem?_eq_some_iff.mp hi).1
    have ex : x = .str (SX.S rs[i]) := by
      rw [List.getElem?_map, List.getElem?_eq_getElem hil] at hi
      exact (Option.some.inj hi).symm
    subst ex
    have b1 := hb rs[i] (List.mem_cons_of_mem _ (List.getElem_mem hil))
    refine ⟨rfl, _, rfl, _, rfl, _, _, rfl, rfl, by rw [SX.S_len, SX.S_len]; exact szle (m := 2000) (by omega) (by omega), _, e, ?_, (g.drop (S := []) (S' := [D]) (Gx.set e rfl) (fun z hz => by rw [List.mem_singleton.mp hz]; exact .inr hD)), ?_⟩
    · rw [List.length_map, List.length_map, List.length_take]
      have : rs.length + 1 ≤ 1000 := hz
      exact szlt (m := 1000) (by omega) (by omega)
    · rw [upd_same, List.take_succ, List.getElem?_eq_getElem hil, SX.S_cat]
      unfold txs
      rw [List.map_append, List.map_append]; rfl
  · rintro H' ⟨g, e⟩
    rw [lr, List.take_length] at e
    have gp : Gr H1 H' := g2.trans g
    refine ⟨p, D, _, _, rfl, rfl, gp.lst e1 (fun m => nomatch m), e, ?_, fun k hk => ?_⟩
    · rw [List.length_map, List.length_map]
      have : rs.length + 1 ≤ 1000 := hz
      exact szle (m := 2000) (by show 1 + rs.length ≤ 2000; omega) (by omega)
    · exact q k _ ((g1.trans gp).trans (Gx.new hk)) upd_same
theorem und_cons (a b : Nat) (A B : List Nat) (R : List Row) : undS (a :: A) (b :: B) R = und a b (undS A B R) := by
  cases R with
  | nil => rfl
  | cons r rs =>
    show (a :: A ++ r) :: rs.map ((b :: B) ++ ·) = (a :: (A ++ r)) :: (rs.map (B ++ ·)).map (b :: ·)
    rw [List.map_map]; rfl
theorem und_nil (R : List Row) : undS [] [] R = R := by
  cases R with
  | nil => rfl
  | cons r rs => unfold undS; simp
theorem und1 (a b : Nat) (R : List Row) : undS [a] [b] R = und a b R := by rw [und_cons, und_nil]
theorem undS_len (A B : List Nat) (R : List Row) : (undS A B R).length = R.length := by
  cases R with
  | nil => rfl
  | cons r rs => unfold undS; simp
theorem undS_bnd {A B : List Nat} {R : List Row} {b k : Nat} (hA : A.length ≤ k) (hB : B.length ≤ k) (h : ∀ t ∈ R, t.length ≤ b) : ∀ t ∈ undS A B R, t.length ≤ b + k := by
  cases R with
  | nil => exact fun t m => nomatch m
  | cons r rs =>
    intro t m
    unfold undS at m
    rcases List.mem_cons.mp m with rfl | m
    · have := h r List.mem_cons_self
      rw [List.length_append]; omega
    · obtain ⟨x, hx, rfl⟩ := List.mem_map.mp m
      have := h x (List.mem_cons_of_mem _ hx)
      rw [List.length_append]; omega
theorem undS_ne {A B : List Nat} {R : List Row} (h : R ≠ []) : undS A B R ≠ [] := fun e => h (List.length_eq_zero_iff.mp (by rw [← undS_len A B R, e]; rfl))
abbrev N_under : List Str := ["rows", "first", "others", "row"]
theorem sc_under : FnScope N_under ["rows", "first", "others"] (defScope s_under) := ⟨rfl, rfl, rfl, by decide +kernel, rfl, by decide +kernel, by decide +kernel⟩
def sp_under (T : Addr) (K : PySem.W.Frag) : Sp := fun vs H Q _ => ∃ (a : Addr) (A U : List Nat) (R : List Row), vs = [.ref a, .str (SX.S A), .str (SX.S U)] ∧ SqT K H a (txs R) ∧ GxR.TabG H T ∧ R ≠ [] ∧ R.length ≤ 1000 ∧ (∀ t ∈ R, t.length ≤ 1000) ∧ A.length ≤ 10 ∧ U.length ≤ 10 ∧
  ∀ (c : Addr) (H' : Hp), Gr H H' → H' c = some (.tup (txs (undS A U R))) → Q (.ref c) H'
theorem ok_under {c T : Addr} (B : Bn mg) (D : DfG K mg "under" s_under ["rows", "first", "others"] c T) (TB : GxR.TabB base mg c T) : Cl CX0 P w K mg base 6 "under" (sp_under T K) := by
  refine D.ok sc_under (fun vs H Q E h => ?_) (fun f A outer s H vs Q E hr h => ?_)
  · obtain ⟨a, A, U, R, rfl, _⟩ := h
    rfl
  obtain ⟨a, A, U, R, rfl, ha, hT, hne, hz, hb, hA, hB, q⟩ := h
  refine ⟨_, (pss_one (ps_ret (pe_op op_catT (pe_tup (pa_cons (pe_op op_add_str (pv 1) (pe_ix ix_tup (pv 0) pe_int (fun _ _ => rfl))) pa_nil)) (pe_tupG (k := 0) (own := [("row", 3)]) (hr.mono (by omega)) (by rfl) B.tuple rfl sc_under.nd TB rfl ⟨blkOk_by (N := N_under) (sc := defScope s_under) (by decide +kernel), rfl, by decide +kernel, rfl⟩ (pi_tup (pe_slice sl_tup (pv 0) (po_some pe_int) po_none)) (fun _ _ _ _ _ _ _ _ hr => (pg_name (i := 3) sc_under.nd rfl (by first | exact Or.inl rfl | exact Or.inr rfl))) (fun _ _ _ _ _ _ _ _ hr => pts_nil) (fun _ _ _ _ _ _ _ _ hr => (pe_op op_add_str (pv 2) (pv 3))))))), ?_⟩
  obtain ⟨r0, rs, rfl⟩ : ∃ r rs, R = r :: rs := by
    cases R with
    | nil => exact absurd rfl hne
    | cons r rs => exact ⟨r, rs, rfl⟩
  have b0 := hb r0 List.mem_cons_self
  refine ⟨_, rfl, _, rfl, a, _, _, _, rfl, rfl, ha, at0, _, _, rfl, rfl, by rw [SX.S_len, SX.S_len]; exact szle (m := 2000) (by omega) (by omega), (by show 1 ≤ sizeLine; decide), fun p hp => ?_⟩
  rw [SX.S_cat]
  generalize z1 : upd H p _ = H1
  obtain ⟨g1, e1⟩ := hA_gr z1 hp
  refine ⟨_, rfl, 1, rfl, a, _, rfl, g1.sqT ha, ?_, fun c2 hc2 => ?_⟩
  · rw [show HT.sIx (txs (r0 :: rs)).length 0 (some 1) = 1 from (HT.sIx_nat _ 0 1).trans (by show min 1 ((txs rs).length + 1) = 1; omega)]
    exact fun z => absurd z.1 (by decide)
  have ec : cutV (txs (r0 :: rs)) (some 1) none = txs rs := by
    unfold cutV
    rw [show HT.sIx (txs (r0 :: rs)).length 0 (some 1) = 1 from (HT.sIx_nat _ 0 1).trans (by show min 1 ((txs rs).length + 1) = 1; omega), HT.sIx_none]
    show List.take (((txs rs).length + 1) - 1) (txs rs) = txs rs
    exact List.take_of_length_le (by omega)
  rw [ec]
  generalize z2 : upd H1 c2 _ = H2
  obtain ⟨g2, e2⟩ := hA_gr z2 hc2
  have hT2 := g2.tab _ (g1.tab _ hT)
  refine ⟨c2, rfl, ⟨_, SqT.of e2⟩, hT2, fun H3 ht3 => ?_⟩
  have g3 := gr_tabbed hT2 ht3
  have lr : (txs rs).length = rs.length := List.length_map _
  have hz2 : rs.length + 1 ≤ 1000 := hz
  refine gt_tup (K := K) (a := c2) (xs := txs rs) (fun i ys H' => Gr H3 H' ∧ ys = txs ((rs.take i).map (U ++ ·))) ⟨Gx.refl, rfl⟩ (fun i ys H' _ ⟨g, _⟩ => g.sqT (g3.sqT (SqT.of e2))) ?_ ?_
  · rintro i x ys H' hi ⟨g, rfl⟩
    have hil : i < rs.length := by rw [← lr]; exact (List.getElem?_eq_some_iff.mp hi).1
    have ex : x = .str (SX.S rs[i]) := by
      rw [List.getElem?_map, List.getElem?_eq_getElem hil] at hi
      exact (Option.some.inj hi).symm
    subst ex
    have b1 := hb rs[i] (List.mem_cons_of_mem _ (List.getElem_mem hil))
    refine ⟨rfl, _, rfl, _, rfl, _, _, rfl, rfl, by rw [SX.S_len, SX.S_len]; exact szle (m := 2000) (by omega) (by omega), ?_, g, ?_⟩
    · rw [List.length_map, List.length_map, List.length_take]
      exact szlt (m := 1000) (by omega) (by omega)
    · rw [List.take_succ, List.getElem?_eq_getElem hil, SX.S_cat]
      unfold txs
      rw [List.map_append, List.map_append]; rfl
  · rintro ys H' ⟨g, rfl⟩
    rw [lr, List.take_length]
    have gp : Gr H1 H' := g2.trans (g3.trans g)
    refine ⟨by rw [List.length_map, List.length_map]; exact szle (m := 1000) (by omega) (by omega), fun l hl => ?_⟩
    have gl : Gr H' (upd H' l (.tup (txs (rs.map (U ++ ·))))) := Gx.new hl
    refine ⟨p, l, _, _, rfl, rfl, SqT.of (gl.tup _ _ (gp.tup _ _ e1)), SqT.of upd_same, List.cons_ne_nil _ _, ?_, fun e0 => ?_, fun _ r hr2 => ?_⟩
    · rw [List.length_map, List.length_map]
      exact szle (m := 2000) (by show 1 + rs.length ≤ 2000; omega) (by omega)
    · have er : rs = [] := by
        have := congrArg List.length e0
        rw [List.length_map, List.length_map] at this
        exact List.length_eq_zero_iff.mp this
      subst er
      exact q p _ ((g1.trans gp).trans gl) (gl.tup _ _ (gp.tup _ _ e1))
    · exact q r _ (((g1.trans gp).trans gl).trans (Gx.new hr2)) upd_same
/-- the drawing -/
def Fm.dw : Fm → List Row
  | .lt n => [45 :: 32 :: n.cps.toList]
  | .ng p => und 42 32 p.dw
  | .im p q => und 43 124 q.dw ++ und 96 32 p.dw
theorem Fm.dw_ld : ∀ f : Fm, LD f f.dw
  | .lt n => .lt
  | .ng p => .ng p.dw_ld
  | .im p q => .im q.dw_ld p.dw_ld
theorem Fm.dw_ne : ∀ f : Fm, f.dw ≠ []
  | .lt n => List.cons_ne_nil _ _
  | .ng p => by show und 42 32 p.dw ≠ []; rw [← und1]; exact undS_ne p.dw_ne
  | .im p q => fun e => by
    have := (List.append_eq_nil_iff.mp (show und 43 124 q.dw ++ und 96 32 p.dw = [] from e)).1
    rw [← und1] at this
    exact undS_ne q.dw_ne this
theorem Fm.dw_len : ∀ f : Fm, f.dw.length ≤ f.size
  | .lt n => Nat.le_refl _
  | .ng p => by show (und 42 32 p.dw).length ≤ 1 + p.size; rw [← und1, undS_len]; have := p.dw_len; omega
  | .im p q => by
    show (und 43 124 q.dw ++ und 96 32 p.dw).length ≤ 1 + (p.size + q.size)
    rw [List.length_append, ← und1, ← und1, undS_len, undS_len]
    have := p.dw_len; have := q.dw_len; omega
theorem Fm.dw_b : ∀ f : Fm, f.Sh → ∀ t ∈ f.dw, t.length ≤ 4 * f.size
  | .lt n, h => fun t ht => by
    have hl : n.length ≤ 2 := h n (List.mem_singleton_self _)
    have ml : n.cps.toList.length = n.length := Array.length_toList
    rw [List.mem_singleton.mp ht, List.length_cons, List.length_cons, ml]
    show n.length + 1 + 1 ≤ 4 * 1
    omega
  | .ng p, h => fun t ht => by
    have ht : t ∈ und 42 32 p.dw := ht
    rw [← und1] at ht
    have := undS_bnd (k := 1) (by decide) (by decide) (p.dw_b h.ng) t ht
    show t.length ≤ 4 * (1 + p.size)
    omega
  | .im p q, h => fun t ht => by
    have ht : t ∈ und 43 124 q.dw ++ und 96 32 p.dw := ht
    show t.length ≤ 4 * (1 + (p.size + q.size))
    rcases List.mem_append.mp ht with ht | ht
    · rw [← und1] at ht
      have := undS_bnd (k := 1) (by decide) (by decide) (q.dw_b h.r) t ht
      omega
    · rw [← und1] at ht
      have := undS_bnd (k := 1) (by decide) (by decide) (p.dw_b h.l) t ht
      omega
abbrev N_draw : List Str := ["formula"]
theorem sc_draw : FnScope N_draw ["formula"] (defScope s_draw) := ⟨rfl, rfl, rfl, by decide +kernel, rfl, by decide +kernel, by decide +kernel⟩
def sp_draw (T : Addr) (K : PySem.W.Frag) (n : Nat) : Sp := fun vs H Q _ => ∃ (v : V) (f : Fm), vs = [v] ∧ FmV K H v f ∧ GxR.TabG H T ∧ f.depth ≤ n ∧ f.Sh ∧ f.size ≤ 100 ∧ ∀ (c : Addr) (H' : Hp), Gr H H' → SqT K H' c (txs f.dw) → Q (.ref c) H'
theorem st_draw {n : Nat} {T : Addr} (B : Bn mg) (D : Df K mg "draw" s_draw ["formula"]) (c_under : Cl CX0 P w K mg base 6 "under" (sp_under T K)) (c_draw : Cl CX0 P w K mg base (n + 6) "draw" (sp_draw T K n)) : Cl CX0 P w K mg base (n + 7) "draw" (sp_draw T K (n + 1)) := by
  refine D.ok sc_draw (fun vs H Q E h => ?_) (fun f cdv A outer s H vs Q E hr h => ?_)
  · obtain ⟨v, f, rfl, _⟩ := h
    rfl
  obtain ⟨v, f, rfl, hf, hT, hn, hs, hz, q⟩ := h
  refine ⟨_, (pss_cons (ps_if (pt_cmpR op_eq (pe_ix ix_tup (pv 0) pe_int (fun _ _ => rfl)) pe_str (nomark _))
    (pss_one (ps_ret (pe_tup (pa_cons (pe_op op_add_str pe_str (pe_ix ix_tup (pv 0) pe_int (fun _ _ => rfl))) pa_nil))))
    pss_nil)
  (pss_cons (ps_if (pt_cmpR op_eq (pe_ix ix_tup (pv 0) pe_int (fun _ _ => rfl)) pe_str (nomark _))
    (pss_one (ps_ret (pc c_under hr (by omega) rfl ps0 (pa_cons (pc c_draw hr (by omega) rfl ps0 (pa_cons (pe_ix ix_tup (pv 0) pe_int (fun _ _ => rfl)) pa_nil)) (pa_cons pe_str (pa_cons pe_str pa_nil))))))
    pss_nil)
  (pss_one (ps_ret (pe_op op_catT (pc c_under hr (by omega) rfl ps0 (pa_cons (pc c_draw hr (by omega) rfl ps0 (pa_cons (pe_ix ix_tup (pv 0) pe_int (fun _ _ => rfl)) pa_nil)) (pa_cons pe_str (pa_cons pe_str pa_nil)))) (pc c_under hr (by omega) rfl ps0 (pa_cons (pc c_draw hr (by omega) rfl ps0 (pa_cons (pe_ix ix_tup (pv 0) pe_int (fun _ _ => rfl)) pa_nil)) (pa_cons pe_str (pa_cons pe_str pa_nil))))))))), ?_⟩
  obtain ⟨a, x, r, rfl, ha, hsh⟩ := fm_sh hf
  refine ⟨_, rfl, a, _, _, _, rfl, rfl, ha, at0, (by rfl : scal (V.str f.tag) (V.str "letter") = true), _, rfl, ?_⟩
  cases f with
  | lt m =>
    obtain ⟨rfl, rfl⟩ := hsh
    refine iteT ?_
    have hl : m.length ≤ 2 := hs m (List.mem_singleton_self _)
    have em : SX.S m.cps.toList = m := SX.S_tl m
    refine ⟨_, rfl, a, _, _, _, rfl, rfl, ha, at1, _, _, rfl, rfl, ?_, (by show 1 ≤ sizeLine; decide), fun c hc => ?_⟩
    · rw [show ("- " : Str).length = 2 by decide +kernel]; exact szle (m := 4) (by omega) (by omega)
    have ee : ("- " : Str) ++ m = SX.S (45 :: 32 :: m.cps.toList) := by
      rw [← em, show ("- " : Str) = SX.S [45, 32] by decide +kernel, SX.S_cat]; rfl
    rw [ee]
    exact q c _ (Gx.new hc) (SqT.of upd_same)
  | ng p =>
    obtain ⟨hx, rfl⟩ := hsh
    have hd : p.depth + 1 ≤ n + 1 := hn
    have hz' : 1 + p.size ≤ 100 := hz
    refine iteF ?_
    refine ⟨_, rfl, a, _, _, _, rfl, rfl, ha, at0, (by rfl : scal (V.str (Fm.ng p).tag) (V.str "not") = true), _, rfl, ?_⟩
    rw [tag_not]
    refine iteT ?_
    refine ⟨_, rfl, a, _, _, _, rfl, rfl, ha, at1, x, p, rfl, hx, hT, by omega, hs.ng, by omega, fun c H1 g1 e1 => ?_⟩
    have bl := p.dw_len
    refine ⟨c, [42], [32], p.dw, by rw [z_st, z_sp]; rfl, e1, g1.tab _ hT, p.dw_ne, by omega, fun t ht => by have := p.dw_b hs.ng t ht; omega, by decide, by decide, fun c2 H2 g2 e2 => ?_⟩
    rw [und1] at e2
    exact q c2 H2 (g1.trans g2) (SqT.of e2)
  | im p1 p2 =>
    obtain ⟨y, rfl, hx, hy⟩ := hsh
    have hd : max p1.depth p2.depth + 1 ≤ n + 1 := hn
    have hz' : 1 + (p1.size + p2.size) ≤ 100 := hz
    refine iteF ?_
    refine ⟨_, rfl, a, _, _, _, rfl, rfl, ha, at0, (by rfl : scal (V.str (Fm.im p1 p2).tag) (V.str "not") = true), _, rfl, ?_⟩
    rw [tag_not]
    refine iteF ?_
    have bl1 := p1.dw_len
    have bl2 := p2.dw_len
    refine ⟨_, rfl, a, _, _, _, rfl, rfl, ha, at2, y, p2, rfl, hy, hT, by omega, hs.r, by omega, fun c H1 g1 e1 => ?_⟩
    refine ⟨c, [43], [124], p2.dw, by rw [z_pp, z_pi]; rfl, e1, g1.tab _ hT, p2.dw_ne, by omega, fun t ht => by have := p2.dw_b hs.r t ht; omega, by decide, by decide, fun c2 H2 g2 e2 => ?_⟩
    rw [und1] at e2
    have g12 := g1.trans g2
    refine ⟨_, rfl, a, _, _, _, rfl, rfl, g12.sqT ha, at1, x, p1, rfl, g12.dt hx, g12.tab _ hT, by omega, hs.l, by omega, fun c3 H3 g3 e3 => ?_⟩
    refine ⟨c3, [96], [32], p1.dw, by rw [z_ba, z_sp]; rfl, e3, g3.tab _ (g12.tab _ hT), p1.dw_ne, by omega, fun t ht => by have := p1.dw_b hs.l t ht; omega, by decide, by decide, fun c4 H4 g4 e4 => ?_⟩
    rw [und1] at e4
    have u1 : (txs (und 43 124 p2.dw)).length = p2.dw.length := by rw [List.length_map, ← und1, undS_len]
    have u2 : (txs (und 96 32 p1.dw)).length = p1.dw.length := by rw [List.length_map, ← und1, undS_len]
    refine ⟨c2, c4, _, _, rfl, rfl, SqT.of (g4.tup _ _ (g3.tup _ _ e2)), SqT.of e4, fun e => ?_, ?_, fun e => ?_, fun _ k hk => ?_⟩
    · have := congrArg List.length e
      rw [u1] at this
      exact p2.dw_ne (List.length_eq_zero_iff.mp this)
    · rw [u1, u2]; exact szle (m := 200) (by omega) (by omega)
    · have := congrArg List.length e
      rw [u2] at this
      exact absurd (List.length_eq_zero_iff.mp this) p1.dw_ne
    · refine q k _ ((g12.trans (g3.trans g4)).trans (Gx.new hk)) (SqT.of ?_)
      rw [upd_same]
      exact congrArg (fun z => some (HO.tup z)) (List.map_append).symm
theorem ok_draw {T : Addr} (B : Bn mg) (D : Df K mg "draw" s_draw ["formula"]) (c_under : Cl CX0 P w K mg base 6 "under" (sp_under T K)) : ∀ n : Nat, Cl CX0 P w K mg base (n + 6) "draw" (sp_draw T K n)
  | 0 => D.none fun vs H Q E ⟨_, f, _, _, _, h, _⟩ => by have := f.depth_pos; omega
  | n + 1 => st_draw B D c_under (ok_draw B D c_under n)
def lens (R : List Row) : List V := R.map fun t => V.int (t.length : Int)
def mxl (R : List Row) : Option Int := imax (lens R)
theorem lens_len (R : List Row) : (lens R).length = R.length := List.length_map _
abbrev N_width : List Str := ["formula", "row"]
theorem sc_width : FnScope N_width ["formula"] (defScope s_width) := ⟨rfl, rfl, rfl, by decide +kernel, rfl, by decide +kernel, by decide +kernel⟩
def sp_width (T T2 : Addr) (K : PySem.W.Frag) : Sp := fun vs H Q _ => ∃ (v : V) (f : Fm), vs = [v] ∧ FmV K H v f ∧ GxR.TabG H T ∧ GxR.TabG H T2 ∧ f.depth ≤ 60 ∧ f.Sh ∧ f.size ≤ 100 ∧ ∀ (z : Int) (H' : Hp), Gr H H' → mxl f.dw = some z → Q (.int z) H'
theorem ok_width {c T T2 : Addr} (B : Bn mg) (D : DfG K mg "width" s_width ["formula"] c T2) (TB : GxR.TabB base mg c T2) (c_draw : Cl CX0 P w K mg base 66 "draw" (sp_draw T K 60)) : Cl CX0 P w K mg base 70 "width" (sp_width T T2 K) := by
  refine D.ok sc_width (fun vs H Q E h => ?_) (fun f A outer s H vs Q E hr h => ?_)
  · obtain ⟨v, f, rfl, _⟩ := h
    rfl
  obtain ⟨v, f, rfl, hf, hT, hT2, hd, hs, hz, q⟩ := h
  refine ⟨_, (pss_one (ps_ret (pe_maxG (k := 0) (own := [("row", 1)]) (hr.mono (by omega)) (by rfl) B.max rfl sc_width.nd TB rfl ⟨blkOk_by (N := N_width) (sc := defScope s_width) (by decide +kernel), rfl, by decide +kernel, rfl⟩ (pi_tup (pc c_draw hr (by omega) rfl ps0 (pa_cons (pv 0) pa_nil))) (fun _ _ _ _ _ _ _ _ hr => (pg_name (i := 1) sc_width.nd rfl (by first | exact Or.inl rfl | exact Or.inr rfl))) (fun _ _ _ _ _ _ _ _ hr => pts_nil) (fun _ _ _ _ _ _ _ _ hr => (pe_callB call_len_str (by rfl) B.len PySem.boot_len (pa_cons (pv 1) pa_nil)))))), ?_⟩
  refine ⟨_, rfl, v, f, rfl, hf, hT, hd, hs, hz, fun c1 H1 g1 e1 => ⟨c1, rfl, ⟨_, e1⟩, g1.tab _ hT2, fun H2 ht => ?_⟩⟩
  have g2 := gr_tabbed (g1.tab _ hT2) ht
  have lr : (txs f.dw).length = f.dw.length := List.length_map _
  have hl := f.dw_len
  refine gt_tup (K := K) (a := c1) (xs := txs f.dw) (fun i ys H' => Gr H2 H' ∧ ys = lens (f.dw.take i)) ⟨Gx.refl, rfl⟩ (fun i ys H' _ ⟨g, _⟩ => g.sqT (g2.sqT e1)) ?_ ?_
  · rintro i x ys H' hi ⟨g, rfl⟩
    have hil : i < f.dw.length := by rw [← lr]; exact (List.getElem?_eq_some_iff.mp hi).1
    have ex : x = .str (SX.S f.dw[i]) := by
      rw [List.getElem?_map, List.getElem?_eq_getElem hil] at hi
      exact (Option.some.inj hi).symm
    subst ex
    have b1 := f.dw_b hs f.dw[i] (List.getElem_mem hil)
    refine ⟨rfl, _, rfl, _, rfl, by rw [SX.S_len]; exact szle (m := 400) (by omega) (by omega), _, rfl, g, ?_⟩
    rw [List.take_succ, List.getElem?_eq_getElem hil, SX.S_len]
    unfold lens
    rw [List.map_append]; rfl
  · rintro ys H' ⟨g, rfl⟩
    rw [lr, List.take_length]
    refine ⟨fun e => ?_, fun z hz => q z H' (g1.trans (g2.trans g)) hz⟩
    have := congrArg List.length e
    rw [lens_len] at this
    exact f.dw_ne (List.length_eq_zero_iff.mp this)
abbrev N_height : List Str := ["formula"]
theorem sc_height : FnScope N_height ["formula"] (defScope s_height) := ⟨rfl, rfl, rfl, by decide +kernel, rfl, by decide +kernel, by decide +kernel⟩
def sp_height (T : Addr) (K : PySem.W.Frag) : Sp := fun vs H Q _ => ∃ (v : V) (f : Fm), vs = [v] ∧ FmV K H v f ∧ GxR.TabG H T ∧ f.depth ≤ 60 ∧ f.Sh ∧ f.size ≤ 100 ∧ ∀ (H' : Hp), Gr H H' → Q (.int (f.dw.length : Int)) H'
theorem ok_height {T : Addr} (B : Bn mg) (D : Df K mg "height" s_height ["formula"]) (c_draw : Cl CX0 P w K mg base 66 "draw" (sp_draw T K 60)) : Cl CX0 P w K mg base 67 "height" (sp_height T K) := by
  refine D.ok sc_height (fun vs H Q E h => ?_) (fun f cdv A outer s H vs Q E hr h => ?_)
  · obtain ⟨v, f, rfl, _⟩ := h
    rfl
  obtain ⟨v, f, rfl, hf, hT, hd, hs, hz, q⟩ := h
  refine ⟨_, (pss_one (ps_ret (pe_callB call_len_seq (by rfl) B.len PySem.boot_len (pa_cons (pc c_draw hr (by omega) rfl ps0 (pa_cons (pv 0) pa_nil)) pa_nil)))), ?_⟩
  refine ⟨_, rfl, v, f, rfl, hf, hT, hd, hs, hz, fun c1 H1 g1 e1 => ⟨c1, _, rfl, .inr e1, ?_⟩⟩
  rw [show ((txs f.dw).length : Int) = (f.dw.length : Int) by rw [List.length_map]]
  exact q H1 g1
abbrev N_Ldrawing : List Str := ["_law_formula", "_law_upper"]
theorem sc_Ldrawing : FnScope N_Ldrawing ["_law_formula"] (defScope s_Ldrawing) := ⟨rfl, rfl, rfl, by decide +kernel, rfl, by decide +kernel, by decide +kernel⟩
def sp_Ldrawing (K : PySem.W.Frag) (n : Nat) : Sp := fun vs H Q _ => ∃ (v : V) (f : Fm), vs = [v] ∧ FmV K H v f ∧ f.depth ≤ n ∧ f.Sh ∧ f.size ≤ 100 ∧ ∀ (c : Addr) (H' : Hp), Gr H H' → H' c = some (.lst (txs f.dw)) → Q (.ref c) H'
theorem st_Ldrawing {n : Nat} (B : Bn mg) (D : Df K mg "_law_drawing" s_Ldrawing ["_law_formula"]) (c_Lunder : Cl CX0 P w K mg base 1 "_law_under" sp_Lunder) (c_Ldrawing : Cl CX0 P w K mg base (n + 1) "_law_drawing" (sp_Ldrawing K n)) : Cl CX0 P w K mg base (n + 2) "_law_drawing" (sp_Ldrawing K (n + 1)) := by
  refine D.ok sc_Ldrawing (fun vs H Q E h => ?_) (fun f cdv A outer s H vs Q E hr h => ?_)
  · obtain ⟨v, f, rfl, _⟩ := h
    rfl
  obtain ⟨v, f, rfl, hf, hn, hs, hz, q⟩ := h
  refine ⟨_, (pss_cons (ps_if (pt_cmpR op_eq (pe_ix ix_tup (pv 0) pe_int (fun _ _ => rfl)) pe_str (nomark _))
    (pss_one (ps_ret (pe_lst (pa_cons (pe_op op_add_str pe_str (pe_ix ix_tup (pv 0) pe_int (fun _ _ => rfl))) pa_nil))))
    pss_nil)
  (pss_cons (ps_if (pt_cmpR op_eq (pe_ix ix_tup (pv 0) pe_int (fun _ _ => rfl)) pe_str (nomark _))
    (pss_one (ps_ret (pc c_Lunder hr (by omega) rfl ps0 (pa_cons (pc c_Ldrawing hr (by omega) rfl ps0 (pa_cons (pe_ix ix_tup (pv 0) pe_int (fun _ _ => rfl)) pa_nil)) (pa_cons pe_str (pa_cons pe_str pa_nil))))))
    pss_nil)
  (pss_cons (ps_set (i := 1) sc_Ldrawing.nd rfl (by first | exact Or.inl rfl | exact Or.inr rfl) (pc c_Lunder hr (by omega) rfl ps0 (pa_cons (pc c_Ldrawing hr (by omega) rfl ps0 (pa_cons (pe_ix ix_tup (pv 0) pe_int (fun _ _ => rfl)) pa_nil)) (pa_cons pe_str (pa_cons pe_str pa_nil)))))
  (pss_one (ps_ret (pe_op op_cat (pv 1) (pc c_Lunder hr (by omega) rfl ps0 (pa_cons (pc c_Ldrawing hr (by omega) rfl ps0 (pa_cons (pe_ix ix_tup (pv 0) pe_int (fun _ _ => rfl)) pa_nil)) (pa_cons pe_str (pa_cons pe_str pa_nil)))))))))), ?_⟩
  obtain ⟨a, x, r, rfl, ha, hsh⟩ := fm_sh hf
  refine ⟨_, rfl, a, _, _, _, rfl, rfl, ha, at0, (by rfl : scal (V.str f.tag) (V.str "letter") = true), _, rfl, ?_⟩
  cases f with
  | lt m =>
    obtain ⟨rfl, rfl⟩ := hsh
    refine iteT ?_
    have hl : m.length ≤ 2 := hs m (List.mem_singleton_self _)
    have em : SX.S m.cps.toList = m := SX.S_tl m
    refine ⟨_, rfl, a, _, _, _, rfl, rfl, ha, at1, _, _, rfl, rfl, ?_, (by show 1 ≤ sizeLine; decide), fun c hc => ?_⟩
    · rw [show ("- " : Str).length = 2 by decide +kernel]; exact szle (m := 4) (by omega) (by omega)
    have ee : ("- " : Str) ++ m = SX.S (45 :: 32 :: m.cps.toList) := by
      rw [← em, show ("- " : Str) = SX.S [45, 32] by decide +kernel, SX.S_cat]; rfl
    rw [ee]
    exact q c _ (Gx.new hc) upd_same
  | ng p =>
    obtain ⟨hx, rfl⟩ := hsh
    have hd : p.depth + 1 ≤ n + 1 := hn
    have hz' : 1 + p.size ≤ 100 := hz
    refine iteF ?_
    refine ⟨_, rfl, a, _, _, _, rfl, rfl, ha, at0, (by rfl : scal (V.str (Fm.ng p).tag) (V.str "not") = true), _, rfl, ?_⟩
    rw [tag_not]
    refine iteT ?_
    refine ⟨_, rfl, a, _, _, _, rfl, rfl, ha, at1, x, p, rfl, hx, by omega, hs.ng, by omega, fun c H1 g1 e1 => ?_⟩
    have bl := p.dw_len
    refine ⟨c, [42], [32], p.dw, by rw [z_st, z_sp]; rfl, e1, p.dw_ne, by omega, fun t ht => by have := p.dw_b hs.ng t ht; omega, by decide, by decide, fun c2 H2 g2 e2 => ?_⟩
    rw [und1] at e2
    exact q c2 H2 (g1.trans g2) e2
  | im p1 p2 =>
    obtain ⟨y, rfl, hx, hy⟩ := hsh
    have hd : max p1.depth p2.depth + 1 ≤ n + 1 := hn
    have hz' : 1 + (p1.size + p2.size) ≤ 100 := hz
    refine iteF ?_
    refine ⟨_, rfl, a, _, _, _, rfl, rfl, ha, at0, (by rfl : scal (V.str (Fm.im p1 p2).tag) (V.str "not") = true), _, rfl, ?_⟩
    rw [tag_not]
    refine iteF ?_
    have bl1 := p1.dw_len
    have bl2 := p2.dw_len
    refine ⟨_, rfl, a, _, _, _, rfl, rfl, ha, at2, y, p2, rfl, hy, by omega, hs.r, by omega, fun c H1 g1 e1 => ?_⟩
    refine ⟨c, [43], [124], p2.dw, by rw [z_pp, z_pi]; rfl, e1, p2.dw_ne, by omega, fun t ht => by have := p2.dw_b hs.r t ht; omega, by decide, by decide, fun c2 H2 g2 e2 => ?_⟩
    rw [und1] at e2
    have g12 := g1.trans g2
    refine ⟨_, rfl, _, rfl, a, _, _, _, rfl, rfl, g12.sqT ha, at1, x, p1, rfl, g12.dt hx, by omega, hs.l, by omega, fun c3 H3 g3 e3 => ?_⟩
    refine ⟨c3, [96], [32], p1.dw, by rw [z_ba, z_sp]; rfl, e3, p1.dw_ne, by omega, fun t ht => by have := p1.dw_b hs.l t ht; omega, by decide, by decide, fun c4 H4 g4 e4 => ?_⟩
    rw [und1] at e4
    refine ⟨c2, c4, _, _, rfl, rfl, g4.lst (g3.lst e2 (fun m => nomatch m)) (fun m => nomatch m), e4, ?_, fun k hk => ?_⟩
    · rw [List.length_map, List.length_map, ← und1, ← und1, undS_len, undS_len]
      exact szle (m := 200) (by omega) (by omega)
    · rw [← List.map_append]
      exact q k _ ((g12.trans (g3.trans g4)).trans (Gx.new hk)) upd_same
theorem ok_Ldrawing (B : Bn mg) (D : Df K mg "_law_drawing" s_Ldrawing ["_law_formula"]) (c_Lunder : Cl CX0 P w K mg base 1 "_law_under" sp_Lunder) : ∀ n : Nat, Cl CX0 P w K mg base (n + 1) "_law_drawing" (sp_Ldrawing K n)
  | 0 => D.none fun vs H Q E ⟨_, f, _, _, h, _⟩ => by have := f.depth_pos; omega
  | n + 1 => st_Ldrawing B D c_Lunder (ok_Ldrawing B D c_Lunder n)
def spLaw (T T2 : Addr) (K : PySem.W.Frag) : Sp := fun vs H Q _ => ∃ (a : Addr) (ns : List Int), vs = [.ref a] ∧ SqL K H a (ns.map V.int) ∧ ns.length ≤ 63 ∧ GxR.TabG H T ∧ GxR.TabG H T2 ∧ ∀ H', Q (.bl true) H'
theorem rooms5 : ∀ i : Nat, i < 5 → ∃ r : Int, atI [V.int 1, V.int 3, V.int 7, V.int 15, V.int 30] (0 + (i : Int)) = some (.int r) ∧ 1 ≤ r ∧ r ≤ 30
  | 0, _ => ⟨1, rfl, by decide, by decide⟩ | 1, _ => ⟨3, rfl, by decide, by decide⟩ | 2, _ => ⟨7, rfl, by decide, by decide⟩ | 3, _ => ⟨15, rfl, by decide, by decide⟩ | 4, _ => ⟨30, rfl, by decide, by decide⟩
  | n + 5, h => absurd h (by omega)
theorem imax_spec : ∀ (ns : List Int) (z : Int), imax (ns.map V.int) = some z → z ∈ ns ∧ ∀ y ∈ ns, y ≤ z := by
  intro ns
  have key : ∀ (ns : List Int) (m : Option Int) (z : Int), (ns.map V.int).foldl imx m = some z → (z ∈ ns ∨ m = some z) ∧ (∀ y ∈ ns, y ≤ z) ∧ ∀ y, m = some y → y ≤ z := by
    intro ns
    induction ns with
    | nil => intro m z h; exact ⟨.inr h, (fun y hy => nomatch hy), fun y hy => by rw [show m = some z from h] at hy; cases hy; exact Int.le_refl _⟩
    | cons i ns ih =>
      intro m z h
      obtain ⟨h1, h2, h3⟩ := ih _ z (show (ns.map V.int).foldl imx (imx m (.int i)) = some z from h)
      cases m with
      | none =>
        have hi : i ≤ z := h3 i rfl
        refine ⟨.inl ?_, fun y hy => ?_, fun y hy => nomatch hy⟩
        · rcases h1 with h1 | h1
          · exact List.mem_cons_of_mem _ h1
          · cases h1; exact List.mem_cons_self
        · rcases List.mem_cons.mp hy with rfl | hy
          · exact hi
          · exact h2 y hy
      | some m =>
        have e : imx (some m) (.int i) = some (if m < i then i else m) := rfl
        rw [e] at h1 h3
        have hb := h3 _ rfl
        refine ⟨?_, fun y hy => ?_, fun y hy => ?_⟩
        · rcases h1 with h1 | h1
          · exact .inl (List.mem_cons_of_mem _ h1)
          · have h1 := Option.some.inj h1
            by_cases hl : m < i
            · rw [if_pos hl] at h1; rw [← h1]; exact .inl List.mem_cons_self
            · rw [if_neg hl] at h1; rw [← h1]; exact .inr rfl
        · rcases List.mem_cons.mp hy with rfl | hy
          · split at hb <;> omega
          · exact h2 y hy
        · cases hy
          split at hb <;> omega
  intro z h
  obtain ⟨h1, h2, _⟩ := key ns none z h
  exact ⟨h1.elim id (fun h => nomatch h), h2⟩
theorem dt_txs {H : Hp} : ∀ R : List Row, DtAll K H (txs R) (R.map fun t => PyData.str (SX.S t))
  | [] => .nil
  | t :: R => .cons (.str _) (dt_txs R)
abbrev N_law : List Str := ["_law_script", "_law_box_here", "_law_k", "_law_formula", "_law_rows", "_law_row"]
theorem sc_law : FnScope N_law ["_law_script"] (defScope s_law) := ⟨rfl, rfl, rfl, by decide +kernel, rfl, by decide +kernel, by decide +kernel⟩
theorem ok_law {T T2 f : Addr} {fd : FuncData} (B : Bn mg) (F : Fun K "law" "law" s_law f fd) (c_Lbox : Cl CX0 P w K mg base 3 "_law_box" (sp_Lbox K)) (c_Llettered : Cl CX0 P w K mg base 62 "_law_lettered" (sp_Llettered K))
    (c_Lsame : Cl CX0 P w K mg base 65 "_law_same" (sp_Lsame K 65)) (c_Ldrawing : Cl CX0 P w K mg base 61 "_law_drawing" (sp_Ldrawing K 60)) (c_read_drawing : Cl CX0 P w K mg base 65 "read_drawing" (sp_Dd K 60))
    (c_draw : Cl CX0 P w K mg base 66 "draw" (sp_draw T K 60)) (c_width : Cl CX0 P w K mg base 70 "width" (sp_width T T2 K)) (c_height : Cl CX0 P w K mg base 67 "height" (sp_height T K)) :
    FnOk P w K mg base CX0 130 f fd ["_law_script"] (spLaw T T2 K) := by
  refine F.ok (k := 129) sc_law (fun vs H Q E h => ?_) (fun cdv A outer s H vs Q E hr h => ?_)
  · obtain ⟨a, ns, rfl, _⟩ := h
    rfl
  obtain ⟨a, ns, rfl, hS, hlen, hT, hT2, q⟩ := h
  refine ⟨_, (pss_cons (ps_set (i := 1) sc_law.nd rfl (by first | exact Or.inl rfl | exact Or.inr rfl) (pc c_Lbox hr (by omega) rfl ps0 (pa_cons (pv 0) (pa_cons pe_int (pa_cons pe_int pa_nil)))))
  (pss_cons (ps_for PassesOwn.never rfl (pi_range1 (by rfl) B.range (pa_cons pe_int pa_nil)) (pg_name (i := 2) sc_law.nd rfl (by first | exact Or.inl rfl | exact Or.inr rfl))
    (pss_cons (ps_set (i := 3) sc_law.nd rfl (by first | exact Or.inl rfl | exact Or.inr rfl) (pc c_Llettered hr (by omega) rfl ps0 (pa_cons (pv 1) (pa_cons (pe_ix ix_list (pe_lst (pa_cons pe_int (pa_cons pe_int (pa_cons pe_int (pa_cons pe_int (pa_cons pe_int pa_nil)))))) (pv 2) (fun _ _ => rfl)) (pa_cons pe_int pa_nil)))))
  (pss_cons (ps_set (i := 4) sc_law.nd rfl (by first | exact Or.inl rfl | exact Or.inr rfl) (pe_callTy call_tuple_of (by rfl) B.tuple (by decide +kernel) (pa_cons (pc c_Ldrawing hr (by omega) rfl ps0 (pa_cons (pv 3) pa_nil)) pa_nil)))
  (pss_cons (ps_if (PW.pt (pw_or (pt_not (pt_truth (pc c_Lsame hr (by omega) rfl ps0 (pa_cons (pc c_draw hr (by omega) rfl ps0 (pa_cons (pv 3) pa_nil)) (pa_cons (pv 4) pa_nil))) (by intro _; rfl))) (pw_or1 (pt_not (pt_truth (pc c_Lsame hr (by omega) rfl ps0 (pa_cons (pc c_read_drawing hr (by omega) rfl ps0 (pa_cons (pv 4) pa_nil)) (pa_cons (pv 3) pa_nil))) (by intro _; rfl))))))
    (pss_one (ps_ret pe_bl))
    pss_nil)
  (pss_one (ps_if (PW.pt (pw_or (pt_not (pt_truth (pc c_Lsame hr (by omega) rfl ps0 (pa_cons (pc c_height hr (by omega) rfl ps0 (pa_cons (pv 3) pa_nil)) (pa_cons (pe_callB call_len_seq (by rfl) B.len PySem.boot_len (pa_cons (pv 4) pa_nil)) pa_nil))) (by intro _; rfl))) (pw_or1 (pt_not (pt_truth (pc c_Lsame hr (by omega) rfl ps0 (pa_cons (pc c_width hr (by omega) rfl ps0 (pa_cons (pv 3) pa_nil)) (pa_cons (pe_callB (cr_max rfl) (by rfl) B.max (by decide +kernel) (pa_cons (pe_lc (own := [("_law_row", 5)]) rfl sc_law.nd (pi_tup (pv 4)) (blkOk_by (N := N_law) (sc := defScope s_law) (by decide +kernel)) (fun _ _ _ _ _ => (pg_name (i := 5) sc_law.nd rfl (by first | exact Or.inl rfl | exact Or.inr rfl))) (fun _ _ _ _ _ => pts_nil) (fun _ _ _ _ _ => (pe_callB call_len_str (by rfl) B.len PySem.boot_len (pa_cons (pv 5) pa_nil)))) pa_nil)) pa_nil))) (by intro _; rfl))))))
    (pss_one (ps_ret pe_bl))
    pss_nil))))))
  (pss_one (ps_ret pe_bl)))), ?_⟩
  refine ⟨_, rfl, a, ns, 0, 63, rfl, hS, by decide, by decide, by decide, by decide, fun b H1 hb g1 B1 => ?_⟩
  refine ⟨5, rfl, by decide, by decide, for_range (lo := 0) (n := 5) (fun i σ H3 => ∃ v3 v4 v5 v6, σ = [some (.ref a), some (.ref b), v3, v4, v5, v6] ∧ Bx H3 b ∧ GxR.TabG H3 T ∧ GxR.TabG H3 T2) ⟨none, none, none, none, rfl, B1, g1.tab _ hT, g1.tab _ hT2⟩ ?_ ?_⟩
  · rintro i σ H3 hi ⟨v3, v4, v5, v6, rfl, B3, t3, t3'⟩
    obtain ⟨r, er, r1, r2⟩ := rooms5 i hi
    refine ⟨_, rfl, (by show 5 ≤ sizeLine; decide), fun l hl => ?_⟩
    generalize z4 : upd H3 l _ = H4
    obtain ⟨g4, e4⟩ := hA_gr z4 hl
    refine ⟨_, rfl, l, _, _, _, rfl, rfl, SqL.of e4, er, b, r, 6, rfl, B3.gr g4, r1, by omega, by decide, by decide, fun v f H5 g5 B5 hf hs hl5 => ?_⟩
    have hdep : f.depth ≤ 30 := by have := f.depth_le; omega
    have hsz : f.size ≤ 30 := by omega
    have hsh : f.Sh := fun x hx => n6_len (hl5 x hx)
    have hnm : Named f := fun x hx => n6_nm (hl5 x hx)
    have t5 := g5.tab _ (g4.tab _ t3)
    have t5' := g5.tab _ (g4.tab _ t3')
    have hlen := f.dw_len
    refine ⟨_, rfl, v, f, rfl, hf, by omega, hsh, by omega, fun c H6 g6 e6 => ⟨c, _, rfl, .inl ⟨SqL.of e6, fun l7 hl7 => ?_⟩⟩⟩
    generalize z7 : upd H6 l7 _ = H7
    obtain ⟨g7, e7⟩ := hA_gr z7 hl7
    have g57 := g6.trans g7
    have t7 := g57.tab _ t5
    have t7' := g57.tab _ t5'
    have fR : fine (.tuple (f.dw.map fun t => PyData.str (SX.S t))) = true := fine_mk (by rw [List.length_map]; omega) fun d hd => by
      obtain ⟨t, _, rfl⟩ := List.mem_map.mp hd
      rfl
    have dR : PyData.depth (.tuple (f.dw.map fun t => PyData.str (SX.S t))) < 65 := by
      have key : ∀ R : List Row, PyData.depthAll (R.map fun t => PyData.str (SX.S t)) ≤ 1 := by
        intro R
        induction R with
        | nil => simp [PyData.depthAll]
        | cons t R ih => simp only [List.map_cons, PyData.depthAll, PyData.depth]; omega
      have := key f.dw
      simp only [PyData.depth]; omega
    refine ⟨_, rfl, v, f, rfl, g57.dt hf, t7, by omega, hsh, by omega, fun c8 H8 g8 e8 => ?_⟩
    refine ⟨_, rfl, .ref c8, .ref l7, .tuple (f.dw.map fun t => PyData.str (SX.S t)), rfl, .tup e8 (dt_txs _), .tup (g8.sqT (SqT.of e7)) (dt_txs _), dR, fR, _, rfl, iteF ?_⟩
    refine ⟨_, rfl, l7, f.dw, f, rfl, g8.sqT (SqT.of e7), f.dw_ld, hnm, by omega, fun t ht => by have := f.dw_b hsh t ht; omega, by omega, fun u H9 g9 hu => ?_⟩
    have g79 := g8.trans g9
    refine ⟨_, rfl, u, v, f.d, rfl, hu, g79.dt (g57.dt hf), by rw [Fm.d_depth]; omega, Fm.d_fine f, _, rfl, iteF ?_⟩
    refine ⟨_, rfl, v, f, rfl, g79.dt (g57.dt hf), g79.tab _ t7, by omega, hsh, by omega, fun H10 g10 => ?_⟩
    have g710 := g79.trans g10
    refine ⟨_, rfl, l7, _, rfl, .inr (g710.sqT (SqT.of e7)), ?_⟩
    rw [show ((txs f.dw).length : Int) = (f.dw.length : Int) by rw [List.length_map]]
    refine ⟨_, _, .int (f.dw.length : Int), rfl, .int _, .int _, by simp [PyData.depth], rfl, _, rfl, iteF ?_⟩
    refine ⟨_, rfl, v, f, rfl, g710.dt (g57.dt hf), g710.tab _ t7, g710.tab _ t7', by omega, hsh, by omega, fun z H11 g11 hz => ?_⟩
    have g711 := g710.trans g11
    have s7 := g711.sqT (SqT.of (K := K) e7)
    have lr : (txs f.dw).length = f.dw.length := List.length_map _
    refine ⟨_, rfl, l7, rfl, ⟨_, s7⟩, fun D hD => ?_⟩
    refine lc_tup (K := K) (a := l7) (xs := txs f.dw) (fun i H' => Gr H11 H' ∧ H' D = some (.lst (lens (f.dw.take i)))) ⟨Gx.new hD, upd_same⟩ (fun i H' _ ⟨g, _⟩ => g.sqT s7) ?_ ?_
    · rintro i x H' hi ⟨g, e⟩
      have hil : i < f.dw.length := by rw [← lr]; exact (List.getElem?_eq_some_iff.mp hi).1
      have ex : x = .str (SX.S f.dw[i]) := by
        rw [List.getElem?_map, List.getElem?_eq_getElem hil] at hi
        exact (Option.some.inj hi).symm
      subst ex
      have b1 := f.dw_b hsh f.dw[i] (List.getElem_mem hil)
      refine ⟨rfl, _, rfl, _, rfl, by rw [SX.S_len]; exact szle (m := 400) (by omega) (by omega), _, e, ?_, (g.drop (S := []) (S' := [D]) (Gx.set e rfl) (fun z hz => by rw [List.mem_singleton.mp hz]; exact .inr hD)), ?_⟩
      · rw [lens_len, List.length_take]; exact szlt (m := 100) (by omega) (by omega)
      · rw [upd_same, List.take_succ, List.getElem?_eq_getElem hil, SX.S_len]
        unfold lens
        rw [List.map_append]; rfl
    · rintro H12 ⟨g12, e12⟩
      rw [lr, List.take_length] at e12
      have eL : lens f.dw = (f.dw.map fun t => (t.length : Int)).map V.int := by unfold lens; rw [List.map_map]; rfl
      rw [eL] at e12
      refine ⟨D, _, rfl, SqL.of e12, by rw [List.length_map]; exact List.length_pos_iff.mpr f.dw_ne, fun m hm hall => ?_⟩
      have hz' : imax ((f.dw.map fun t => (t.length : Int)).map V.int) = some z := by rw [← eL]; exact hz
      obtain ⟨z1, z2⟩ := imax_spec _ z hz'
      have ezm : z = m := by
        have a1 := z2 m hm
        have a2 := hall z z1
        omega
      subst ezm
      have g512 := g57.trans (g711.trans g12)
      exact ⟨_, _, .int z, rfl, .int _, .int _, by simp [PyData.depth], rfl, _, rfl, iteF ⟨_, _, _, _, rfl, B5.gr g512, g512.tab _ t5, g512.tab _ t5'⟩⟩
  · rintro σ H3 ⟨v3, v4, v5, v6, rfl, _⟩
    exact q H3
end
theorem all_mk {l : PySem.W.OpenLaw} {w : World} {K : PySem.W.Frag} {h : Heap} {mg : Str → Option Value} {fa : Addr} (X : K.In h) (G : h.Ns mainGlobals mg) (hfa : mg "law" = some (.ref fa))
  (tabs : ∀ x ∈ (["under", "width"] : List Str), ∀ c P, PySem.W.tabIn K x = some (c, P) → PySem.W.CodeHd h c P ∧ h.get? P = some { cls := .none, data := .fields #[] })
  {C_Reader : Addr}
  {f_under cc_under tb_under : Addr} {od_under an_under : Option Addr} {sl_under : Array (Option Value)} {oc_under kV_under dc_under pm_under ct_under qe_under : Value} {qd_under : Option Addr} {qv_under : Array Value} {qs_under : Array (Option Value)}
  {f_draw : Addr} {od_draw an_draw : Option Addr} {sl_draw : Array (Option Value)} {oc_draw kV_draw dc_draw pm_draw cd_draw ct_draw : Value}
  {f_width cc_width tb_width : Addr} {od_width an_width : Option Addr} {sl_width : Array (Option Value)} {oc_width kV_width dc_width pm_width ct_width qe_width : Value} {qd_width : Option Addr} {qv_width : Array Value} {qs_width : Array (Option Value)}
  {f_height : Addr} {od_height an_height : Option Addr} {sl_height : Array (Option Value)} {oc_height kV_height dc_height pm_height cd_height ct_height : Value}
  {f_Reader___init__ : Addr} {od_Reader___init__ an_Reader___init__ : Option Addr} {sl_Reader___init__ : Array (Option Value)} {oc_Reader___init__ kV_Reader___init__ dc_Reader___init__ pm_Reader___init__ cd_Reader___init__ ct_Reader___init__ : Value}
  {f_Reader_sign : Addr} {od_Reader_sign an_Reader_sign : Option Addr} {sl_Reader_sign : Array (Option Value)} {oc_Reader_sign kV_Reader_sign dc_Reader_sign pm_Reader_sign cd_Reader_sign ct_Reader_sign : Value}
  {f_Reader_read_before : Addr} {od_Reader_read_before an_Reader_read_before : Option Addr} {sl_Reader_read_before : Array (Option Value)} {oc_Reader_read_before kV_Reader_read_before dc_Reader_read_before pm_Reader_read_before cd_Reader_read_before ct_Reader_read_before : Value}
  {f_Reader_read_row : Addr} {od_Reader_read_row an_Reader_read_row : Option Addr} {sl_Reader_read_row : Array (Option Value)} {oc_Reader_read_row kV_Reader_read_row dc_Reader_read_row pm_Reader_read_row cd_Reader_read_row ct_Reader_read_row : Value}
  {f_Reader_formula : Addr} {od_Reader_formula an_Reader_formula : Option Addr} {sl_Reader_formula : Array (Option Value)} {oc_Reader_formula kV_Reader_formula dc_Reader_formula pm_Reader_formula cd_Reader_formula ct_Reader_formula : Value}
  {f_Reader_read : Addr} {od_Reader_read an_Reader_read : Option Addr} {sl_Reader_read : Array (Option Value)} {oc_Reader_read kV_Reader_read dc_Reader_read pm_Reader_read cd_Reader_read ct_Reader_read : Value}
  {f_read_drawing : Addr} {od_read_drawing an_read_drawing : Option Addr} {sl_read_drawing : Array (Option Value)} {oc_read_drawing kV_read_drawing dc_read_drawing pm_read_drawing cd_read_drawing ct_read_drawing : Value}
  {f_Lcell : Addr} {od_Lcell an_Lcell : Option Addr} {sl_Lcell : Array (Option Value)} {oc_Lcell kV_Lcell dc_Lcell pm_Lcell cd_Lcell ct_Lcell : Value}
  {f_Ldigits : Addr} {od_Ldigits an_Ldigits : Option Addr} {sl_Ldigits : Array (Option Value)} {oc_Ldigits kV_Ldigits dc_Ldigits pm_Ldigits cd_Ldigits ct_Ldigits : Value}
  {f_Lbox : Addr} {od_Lbox an_Lbox : Option Addr} {sl_Lbox : Array (Option Value)} {oc_Lbox kV_Lbox dc_Lbox pm_Lbox cd_Lbox ct_Lbox : Value}
  {f_Ldraw : Addr} {od_Ldraw an_Ldraw : Option Addr} {sl_Ldraw : Array (Option Value)} {oc_Ldraw kV_Ldraw dc_Ldraw pm_Ldraw cd_Ldraw ct_Ldraw : Value}
  {f_Lput : Addr} {od_Lput an_Lput : Option Addr} {sl_Lput : Array (Option Value)} {oc_Lput kV_Lput dc_Lput pm_Lput cd_Lput ct_Lput : Value}
  {f_Lany : Addr} {od_Lany an_Lany : Option Addr} {sl_Lany : Array (Option Value)} {oc_Lany kV_Lany dc_Lany pm_Lany cd_Lany ct_Lany : Value}
  {f_Llettered : Addr} {od_Llettered an_Llettered : Option Addr} {sl_Llettered : Array (Option Value)} {oc_Llettered kV_Llettered dc_Llettered pm_Llettered cd_Llettered ct_Llettered : Value}
  {f_Lunder : Addr} {od_Lunder an_Lunder : Option Addr} {sl_Lunder : Array (Option Value)} {oc_Lunder kV_Lunder dc_Lunder pm_Lunder cd_Lunder ct_Lunder : Value}
  {f_Ldrawing : Addr} {od_Ldrawing an_Ldrawing : Option Addr} {sl_Ldrawing : Array (Option Value)} {oc_Ldrawing kV_Ldrawing dc_Ldrawing pm_Ldrawing cd_Ldrawing ct_Ldrawing : Value}
  {f_Lsame : Addr} {od_Lsame an_Lsame : Option Addr} {sl_Lsame : Array (Option Value)} {oc_Lsame kV_Lsame dc_Lsame pm_Lsame cd_Lsame ct_Lsame : Value}
  {f_law : Addr} {od_law an_law : Option Addr} {sl_law : Array (Option Value)} {oc_law kV_law dc_law pm_law cd_law ct_law : Value}
  {u_SMALL : Value}
  {u_DIGITS : Value}
  (a_Reader : PySem.W.nsIn K mainGlobals "Reader" = some (some (.ref C_Reader)))
  (pg_Reader : PySem.W.plainGet K C_Reader Str.empty = true)
  (hd_Reader : PySem.W.hasDictIn K C_Reader = true)
  (po_Reader : PySem.W.plainOver K C_Reader = true)
  (sa_Reader : PySem.W.findIn K (.ref C_Reader) "__setattr__" = some (some (.builtin "object.__setattr__")))
  (mk_Reader : PySem.W.makesIn K C_Reader = true)
  (kc_Reader : PySem.W.keepIn K (.ref C_Reader) = true)
  (n_Reader_rows : PySem.W.findIn K (.ref C_Reader) "rows" = some none)
  (n_Reader_waiting : PySem.W.findIn K (.ref C_Reader) "waiting" = some none)
  (n_Reader_lines : PySem.W.findIn K (.ref C_Reader) "lines" = some none)
  (a_under : PySem.W.nsIn K mainGlobals "under" = some (some (.ref f_under)))
  (l_under : K.lookup f_under = some ⟨oc_under, od_under, .func (PySem.W.fnOf "under" "under" (defArgs s_under) (defBody s_under) (defScope s_under) .none kV_under dc_under pm_under an_under (.ref cc_under) ct_under), sl_under⟩)
  (c_under : PySem.W.codeIn K (.ref cc_under) "under" = true)
  (k_under : PySem.W.keepIn K (.ref f_under) = true)
  (q_under : K.lookup cc_under = some ⟨qe_under, qd_under, .fields qv_under, qs_under⟩)
  (t_under : (qv_under[11]? : Option Value) = some (.ref tb_under))
  (nt_under : K.lookup tb_under = none)
  (a_draw : PySem.W.nsIn K mainGlobals "draw" = some (some (.ref f_draw)))
  (l_draw : K.lookup f_draw = some ⟨oc_draw, od_draw, .func (PySem.W.fnOf "draw" "draw" (defArgs s_draw) (defBody s_draw) (defScope s_draw) .none kV_draw dc_draw pm_draw an_draw cd_draw ct_draw), sl_draw⟩)
  (c_draw : PySem.W.codeIn K cd_draw "draw" = true)
  (k_draw : PySem.W.keepIn K (.ref f_draw) = true)
  (a_width : PySem.W.nsIn K mainGlobals "width" = some (some (.ref f_width)))
  (l_width : K.lookup f_width = some ⟨oc_width, od_width, .func (PySem.W.fnOf "width" "width" (defArgs s_width) (defBody s_width) (defScope s_width) .none kV_width dc_width pm_width an_width (.ref cc_width) ct_width), sl_width⟩)
  (c_width : PySem.W.codeIn K (.ref cc_width) "width" = true)
  (k_width : PySem.W.keepIn K (.ref f_width) = true)
  (q_width : K.lookup cc_width = some ⟨qe_width, qd_width, .fields qv_width, qs_width⟩)
  (t_width : (qv_width[11]? : Option Value) = some (.ref tb_width))
  (nt_width : K.lookup tb_width = none)
  (a_height : PySem.W.nsIn K mainGlobals "height" = some (some (.ref f_height)))
  (l_height : K.lookup f_height = some ⟨oc_height, od_height, .func (PySem.W.fnOf "height" "height" (defArgs s_height) (defBody s_height) (defScope s_height) .none kV_height dc_height pm_height an_height cd_height ct_height), sl_height⟩)
  (c_height : PySem.W.codeIn K cd_height "height" = true)
  (k_height : PySem.W.keepIn K (.ref f_height) = true)
  (a_Reader___init__ : PySem.W.findIn K (.ref C_Reader) "__init__" = some (some (.ref f_Reader___init__)))
  (i_Reader___init__ : PySem.W.isFn K (.ref f_Reader___init__) = true)
  (l_Reader___init__ : K.lookup f_Reader___init__ = some ⟨oc_Reader___init__, od_Reader___init__, .func (PySem.W.fnOf "__init__" "Reader.__init__" (defArgs s_Reader___init__) (defBody s_Reader___init__) (defScope s_Reader___init__) .none kV_Reader___init__ dc_Reader___init__ pm_Reader___init__ an_Reader___init__ cd_Reader___init__ ct_Reader___init__), sl_Reader___init__⟩)
  (c_Reader___init__ : PySem.W.codeIn K cd_Reader___init__ "Reader.__init__" = true)
  (k_Reader___init__ : PySem.W.keepIn K (.ref f_Reader___init__) = true)
  (a_Reader_sign : PySem.W.findIn K (.ref C_Reader) "sign" = some (some (.ref f_Reader_sign)))
  (i_Reader_sign : PySem.W.isFn K (.ref f_Reader_sign) = true)
  (l_Reader_sign : K.lookup f_Reader_sign = some ⟨oc_Reader_sign, od_Reader_sign, .func (PySem.W.fnOf "sign" "Reader.sign" (defArgs s_Reader_sign) (defBody s_Reader_sign) (defScope s_Reader_sign) .none kV_Reader_sign dc_Reader_sign pm_Reader_sign an_Reader_sign cd_Reader_sign ct_Reader_sign), sl_Reader_sign⟩)
  (c_Reader_sign : PySem.W.codeIn K cd_Reader_sign "Reader.sign" = true)
  (k_Reader_sign : PySem.W.keepIn K (.ref f_Reader_sign) = true)
  (a_Reader_read_before : PySem.W.findIn K (.ref C_Reader) "read_before" = some (some (.ref f_Reader_read_before)))
  (i_Reader_read_before : PySem.W.isFn K (.ref f_Reader_read_before) = true)
  (l_Reader_read_before : K.lookup f_Reader_read_before = some ⟨oc_Reader_read_before, od_Reader_read_before, .func (PySem.W.fnOf "read_before" "Reader.read_before" (defArgs s_Reader_read_before) (defBody s_Reader_read_before) (defScope s_Reader_read_before) .none kV_Reader_read_before dc_Reader_read_before pm_Reader_read_before an_Reader_read_before cd_Reader_read_before ct_Reader_read_before), sl_Reader_read_before⟩)
  (c_Reader_read_before : PySem.W.codeIn K cd_Reader_read_before "Reader.read_before" = true)
  (k_Reader_read_before : PySem.W.keepIn K (.ref f_Reader_read_before) = true)
  (a_Reader_read_row : PySem.W.findIn K (.ref C_Reader) "read_row" = some (some (.ref f_Reader_read_row)))
  (i_Reader_read_row : PySem.W.isFn K (.ref f_Reader_read_row) = true)
  (l_Reader_read_row : K.lookup f_Reader_read_row = some ⟨oc_Reader_read_row, od_Reader_read_row, .func (PySem.W.fnOf "read_row" "Reader.read_row" (defArgs s_Reader_read_row) (defBody s_Reader_read_row) (defScope s_Reader_read_row) .none kV_Reader_read_row dc_Reader_read_row pm_Reader_read_row an_Reader_read_row cd_Reader_read_row ct_Reader_read_row), sl_Reader_read_row⟩)
  (c_Reader_read_row : PySem.W.codeIn K cd_Reader_read_row "Reader.read_row" = true)
  (k_Reader_read_row : PySem.W.keepIn K (.ref f_Reader_read_row) = true)
  (a_Reader_formula : PySem.W.findIn K (.ref C_Reader) "formula" = some (some (.ref f_Reader_formula)))
  (i_Reader_formula : PySem.W.isFn K (.ref f_Reader_formula) = true)
  (l_Reader_formula : K.lookup f_Reader_formula = some ⟨oc_Reader_formula, od_Reader_formula, .func (PySem.W.fnOf "formula" "Reader.formula" (defArgs s_Reader_formula) (defBody s_Reader_formula) (defScope s_Reader_formula) .none kV_Reader_formula dc_Reader_formula pm_Reader_formula an_Reader_formula cd_Reader_formula ct_Reader_formula), sl_Reader_formula⟩)
  (c_Reader_formula : PySem.W.codeIn K cd_Reader_formula "Reader.formula" = true)
  (k_Reader_formula : PySem.W.keepIn K (.ref f_Reader_formula) = true)
  (a_Reader_read : PySem.W.findIn K (.ref C_Reader) "read" = some (some (.ref f_Reader_read)))
  (i_Reader_read : PySem.W.isFn K (.ref f_Reader_read) = true)
  (l_Reader_read : K.lookup f_Reader_read = some ⟨oc_Reader_read, od_Reader_read, .func (PySem.W.fnOf "read" "Reader.read" (defArgs s_Reader_read) (defBody s_Reader_read) (defScope s_Reader_read) .none kV_Reader_read dc_Reader_read pm_Reader_read an_Reader_read cd_Reader_read ct_Reader_read), sl_Reader_read⟩)
  (c_Reader_read : PySem.W.codeIn K cd_Reader_read "Reader.read" = true)
  (k_Reader_read : PySem.W.keepIn K (.ref f_Reader_read) = true)
  (a_read_drawing : PySem.W.nsIn K mainGlobals "read_drawing" = some (some (.ref f_read_drawing)))
  (l_read_drawing : K.lookup f_read_drawing = some ⟨oc_read_drawing, od_read_drawing, .func (PySem.W.fnOf "read_drawing" "read_drawing" (defArgs s_read_drawing) (defBody s_read_drawing) (defScope s_read_drawing) .none kV_read_drawing dc_read_drawing pm_read_drawing an_read_drawing cd_read_drawing ct_read_drawing), sl_read_drawing⟩)
  (c_read_drawing : PySem.W.codeIn K cd_read_drawing "read_drawing" = true)
  (k_read_drawing : PySem.W.keepIn K (.ref f_read_drawing) = true)
  (a_Lcell : PySem.W.nsIn K mainGlobals "_law_cell" = some (some (.ref f_Lcell)))
  (l_Lcell : K.lookup f_Lcell = some ⟨oc_Lcell, od_Lcell, .func (PySem.W.fnOf "_law_cell" "_law_cell" (defArgs s_Lcell) (defBody s_Lcell) (defScope s_Lcell) .none kV_Lcell dc_Lcell pm_Lcell an_Lcell cd_Lcell ct_Lcell), sl_Lcell⟩)
  (c_Lcell : PySem.W.codeIn K cd_Lcell "_law_cell" = true)
  (k_Lcell : PySem.W.keepIn K (.ref f_Lcell) = true)
  (a_Ldigits : PySem.W.nsIn K mainGlobals "_law_digits" = some (some (.ref f_Ldigits)))
  (l_Ldigits : K.lookup f_Ldigits = some ⟨oc_Ldigits, od_Ldigits, .func (PySem.W.fnOf "_law_digits" "_law_digits" (defArgs s_Ldigits) (defBody s_Ldigits) (defScope s_Ldigits) .none kV_Ldigits dc_Ldigits pm_Ldigits an_Ldigits cd_Ldigits ct_Ldigits), sl_Ldigits⟩)
  (c_Ldigits : PySem.W.codeIn K cd_Ldigits "_law_digits" = true)
  (k_Ldigits : PySem.W.keepIn K (.ref f_Ldigits) = true)
  (a_Lbox : PySem.W.nsIn K mainGlobals "_law_box" = some (some (.ref f_Lbox)))
  (l_Lbox : K.lookup f_Lbox = some ⟨oc_Lbox, od_Lbox, .func (PySem.W.fnOf "_law_box" "_law_box" (defArgs s_Lbox) (defBody s_Lbox) (defScope s_Lbox) .none kV_Lbox dc_Lbox pm_Lbox an_Lbox cd_Lbox ct_Lbox), sl_Lbox⟩)
  (c_Lbox : PySem.W.codeIn K cd_Lbox "_law_box" = true)
  (k_Lbox : PySem.W.keepIn K (.ref f_Lbox) = true)
  (a_Ldraw : PySem.W.nsIn K mainGlobals "_law_draw" = some (some (.ref f_Ldraw)))
  (l_Ldraw : K.lookup f_Ldraw = some ⟨oc_Ldraw, od_Ldraw, .func (PySem.W.fnOf "_law_draw" "_law_draw" (defArgs s_Ldraw) (defBody s_Ldraw) (defScope s_Ldraw) .none kV_Ldraw dc_Ldraw pm_Ldraw an_Ldraw cd_Ldraw ct_Ldraw), sl_Ldraw⟩)
  (c_Ldraw : PySem.W.codeIn K cd_Ldraw "_law_draw" = true)
  (k_Ldraw : PySem.W.keepIn K (.ref f_Ldraw) = true)
  (a_Lput : PySem.W.nsIn K mainGlobals "_law_put" = some (some (.ref f_Lput)))
  (l_Lput : K.lookup f_Lput = some ⟨oc_Lput, od_Lput, .func (PySem.W.fnOf "_law_put" "_law_put" (defArgs s_Lput) (defBody s_Lput) (defScope s_Lput) .none kV_Lput dc_Lput pm_Lput an_Lput cd_Lput ct_Lput), sl_Lput⟩)
  (c_Lput : PySem.W.codeIn K cd_Lput "_law_put" = true)
  (k_Lput : PySem.W.keepIn K (.ref f_Lput) = true)
  (a_Lany : PySem.W.nsIn K mainGlobals "_law_any" = some (some (.ref f_Lany)))
  (l_Lany : K.lookup f_Lany = some ⟨oc_Lany, od_Lany, .func (PySem.W.fnOf "_law_any" "_law_any" (defArgs s_Lany) (defBody s_Lany) (defScope s_Lany) .none kV_Lany dc_Lany pm_Lany an_Lany cd_Lany ct_Lany), sl_Lany⟩)
  (c_Lany : PySem.W.codeIn K cd_Lany "_law_any" = true)
  (k_Lany : PySem.W.keepIn K (.ref f_Lany) = true)
  (a_Llettered : PySem.W.nsIn K mainGlobals "_law_lettered" = some (some (.ref f_Llettered)))
  (l_Llettered : K.lookup f_Llettered = some ⟨oc_Llettered, od_Llettered, .func (PySem.W.fnOf "_law_lettered" "_law_lettered" (defArgs s_Llettered) (defBody s_Llettered) (defScope s_Llettered) .none kV_Llettered dc_Llettered pm_Llettered an_Llettered cd_Llettered ct_Llettered), sl_Llettered⟩)
  (c_Llettered : PySem.W.codeIn K cd_Llettered "_law_lettered" = true)
  (k_Llettered : PySem.W.keepIn K (.ref f_Llettered) = true)
  (a_Lunder : PySem.W.nsIn K mainGlobals "_law_under" = some (some (.ref f_Lunder)))
  (l_Lunder : K.lookup f_Lunder = some ⟨oc_Lunder, od_Lunder, .func (PySem.W.fnOf "_law_under" "_law_under" (defArgs s_Lunder) (defBody s_Lunder) (defScope s_Lunder) .none kV_Lunder dc_Lunder pm_Lunder an_Lunder cd_Lunder ct_Lunder), sl_Lunder⟩)
  (c_Lunder : PySem.W.codeIn K cd_Lunder "_law_under" = true)
  (k_Lunder : PySem.W.keepIn K (.ref f_Lunder) = true)
  (a_Ldrawing : PySem.W.nsIn K mainGlobals "_law_drawing" = some (some (.ref f_Ldrawing)))
  (l_Ldrawing : K.lookup f_Ldrawing = some ⟨oc_Ldrawing, od_Ldrawing, .func (PySem.W.fnOf "_law_drawing" "_law_drawing" (defArgs s_Ldrawing) (defBody s_Ldrawing) (defScope s_Ldrawing) .none kV_Ldrawing dc_Ldrawing pm_Ldrawing an_Ldrawing cd_Ldrawing ct_Ldrawing), sl_Ldrawing⟩)
  (c_Ldrawing : PySem.W.codeIn K cd_Ldrawing "_law_drawing" = true)
  (k_Ldrawing : PySem.W.keepIn K (.ref f_Ldrawing) = true)
  (a_Lsame : PySem.W.nsIn K mainGlobals "_law_same" = some (some (.ref f_Lsame)))
  (l_Lsame : K.lookup f_Lsame = some ⟨oc_Lsame, od_Lsame, .func (PySem.W.fnOf "_law_same" "_law_same" (defArgs s_Lsame) (defBody s_Lsame) (defScope s_Lsame) .none kV_Lsame dc_Lsame pm_Lsame an_Lsame cd_Lsame ct_Lsame), sl_Lsame⟩)
  (c_Lsame : PySem.W.codeIn K cd_Lsame "_law_same" = true)
  (k_Lsame : PySem.W.keepIn K (.ref f_Lsame) = true)
  (a_law : PySem.W.nsIn K mainGlobals "law" = some (some (.ref f_law)))
  (l_law : K.lookup f_law = some ⟨oc_law, od_law, .func (PySem.W.fnOf "law" "law" (defArgs s_law) (defBody s_law) (defScope s_law) .none kV_law dc_law pm_law an_law cd_law ct_law), sl_law⟩)
  (c_law : PySem.W.codeIn K cd_law "law" = true)
  (k_law : PySem.W.keepIn K (.ref f_law) = true)
  (z_bool : PySem.W.nsIn K mainGlobals "bool" = some none)
  (z_int : PySem.W.nsIn K mainGlobals "int" = some none)
  (z_isinstance : PySem.W.nsIn K mainGlobals "isinstance" = some none)
  (z_len : PySem.W.nsIn K mainGlobals "len" = some none)
  (z_max : PySem.W.nsIn K mainGlobals "max" = some none)
  (z_range : PySem.W.nsIn K mainGlobals "range" = some none)
  (z_str : PySem.W.nsIn K mainGlobals "str" = some none)
  (z_tuple : PySem.W.nsIn K mainGlobals "tuple" = some none)
  (g_SMALL : PySem.W.nsIn K mainGlobals "SMALL" = some (some u_SMALL))
  (r_SMALL : RelV (.str "abcdefghijklmnopqrstuvwxyz") u_SMALL)
  (g_DIGITS : PySem.W.nsIn K mainGlobals "DIGITS" = some (some u_DIGITS))
  (r_DIGITS : RelV (.str "0123456789") u_DIGITS) :
  LamX.LawAtS l w K CX0 130 63 "_law_script" mg fa h := by
  have e := hfa.symm.trans (PySem.W.mg_of X G a_law)
  cases e
  have cl_Reader : Cls K C_Reader := ⟨pg_Reader, hd_Reader, po_Reader, sa_Reader⟩
  have m_Reader : mg "Reader" = some (.ref C_Reader) := PySem.W.mg_of X G a_Reader
  have D_under : DfG K mg "under" s_under ["rows", "first", "others"] cc_under tb_under := dg_mk X G (fun _ _ _ _ _ _ us hl => match us, hl with | [_, _, _], _ => rfl) a_under l_under c_under k_under
  have T_under := tab_mk a_under l_under rfl q_under t_under
  have D_draw : Df K mg "draw" s_draw ["formula"] := df_mk X G (fun _ _ _ _ _ _ us hl => match us, hl with | [_], _ => rfl) a_draw l_draw c_draw k_draw
  have D_width : DfG K mg "width" s_width ["formula"] cc_width tb_width := dg_mk X G (fun _ _ _ _ _ _ us hl => match us, hl with | [_], _ => rfl) a_width l_width c_width k_width
  have T_width := tab_mk a_width l_width rfl q_width t_width
  have D_height : Df K mg "height" s_height ["formula"] := df_mk X G (fun _ _ _ _ _ _ us hl => match us, hl with | [_], _ => rfl) a_height l_height c_height k_height
  have D_Reader___init__ : Dm K C_Reader "__init__" "Reader.__init__" s_Reader___init__ ["self", "rows"] := dm_mk (fun _ _ _ _ _ _ us hl => match us, hl with | [_, _], _ => rfl) a_Reader___init__ i_Reader___init__ l_Reader___init__ c_Reader___init__ k_Reader___init__
  have D_Reader_sign : Dm K C_Reader "sign" "Reader.sign" s_Reader_sign ["self", "row", "column"] := dm_mk (fun _ _ _ _ _ _ us hl => match us, hl with | [_, _, _], _ => rfl) a_Reader_sign i_Reader_sign l_Reader_sign c_Reader_sign k_Reader_sign
  have D_Reader_read_before : Dm K C_Reader "read_before" "Reader.read_before" s_Reader_read_before ["self", "row"] := dm_mk (fun _ _ _ _ _ _ us hl => match us, hl with | [_, _], _ => rfl) a_Reader_read_before i_Reader_read_before l_Reader_read_before c_Reader_read_before k_Reader_read_before
  have D_Reader_read_row : Dm K C_Reader "read_row" "Reader.read_row" s_Reader_read_row ["self", "row"] := dm_mk (fun _ _ _ _ _ _ us hl => match us, hl with | [_, _], _ => rfl) a_Reader_read_row i_Reader_read_row l_Reader_read_row c_Reader_read_row k_Reader_read_row
  have D_Reader_formula : Dm K C_Reader "formula" "Reader.formula" s_Reader_formula ["self"] := dm_mk (fun _ _ _ _ _ _ us hl => match us, hl with | [_], _ => rfl) a_Reader_formula i_Reader_formula l_Reader_formula c_Reader_formula k_Reader_formula
  have D_Reader_read : Dm K C_Reader "read" "Reader.read" s_Reader_read ["self"] := dm_mk (fun _ _ _ _ _ _ us hl => match us, hl with | [_], _ => rfl) a_Reader_read i_Reader_read l_Reader_read c_Reader_read k_Reader_read
  have D_read_drawing : Df K mg "read_drawing" s_read_drawing ["rows"] := df_mk X G (fun _ _ _ _ _ _ us hl => match us, hl with | [_], _ => rfl) a_read_drawing l_read_drawing c_read_drawing k_read_drawing
  have D_Lcell : Df K mg "_law_cell" s_Lcell ["_law_script", "_law_k"] := df_mk X G (fun _ _ _ _ _ _ us hl => match us, hl with | [_, _], _ => rfl) a_Lcell l_Lcell c_Lcell k_Lcell
  have D_Ldigits : Df K mg "_law_digits" s_Ldigits ["_law_script", "_law_first", "_law_last"] := df_mk X G (fun _ _ _ _ _ _ us hl => match us, hl with | [_, _, _], _ => rfl) a_Ldigits l_Ldigits c_Ldigits k_Ldigits
  have D_Lbox : Df K mg "_law_box" s_Lbox ["_law_script", "_law_first", "_law_last"] := df_mk X G (fun _ _ _ _ _ _ us hl => match us, hl with | [_, _, _], _ => rfl) a_Lbox l_Lbox c_Lbox k_Lbox
  have D_Ldraw : Df K mg "_law_draw" s_Ldraw ["_law_box_here", "_law_many"] := df_mk X G (fun _ _ _ _ _ _ us hl => match us, hl with | [_, _], _ => rfl) a_Ldraw l_Ldraw c_Ldraw k_Ldraw
  have D_Lput : Df K mg "_law_put" s_Lput ["_law_formula", "_law_table"] := df_mk X G (fun _ _ _ _ _ _ us hl => match us, hl with | [_, _], _ => rfl) a_Lput l_Lput c_Lput k_Lput
  have D_Lany : Df K mg "_law_any" s_Lany ["_law_box_here", "_law_room", "_law_many"] := df_mk X G (fun _ _ _ _ _ _ us hl => match us, hl with | [_, _, _], _ => rfl) a_Lany l_Lany c_Lany k_Lany
  have D_Llettered : Df K mg "_law_lettered" s_Llettered ["_law_box_here", "_law_room", "_law_many"] := df_mk X G (fun _ _ _ _ _ _ us hl => match us, hl with | [_, _, _], _ => rfl) a_Llettered l_Llettered c_Llettered k_Llettered
  have D_Lunder : Df K mg "_law_under" s_Lunder ["_law_rows", "_law_first", "_law_others"] := df_mk X G (fun _ _ _ _ _ _ us hl => match us, hl with | [_, _, _], _ => rfl) a_Lunder l_Lunder c_Lunder k_Lunder
  have D_Ldrawing : Df K mg "_law_drawing" s_Ldrawing ["_law_formula"] := df_mk X G (fun _ _ _ _ _ _ us hl => match us, hl with | [_], _ => rfl) a_Ldrawing l_Ldrawing c_Ldrawing k_Ldrawing
  have D_Lsame : Df K mg "_law_same" s_Lsame ["_law_actual", "_law_expected"] := df_mk X G (fun _ _ _ _ _ _ us hl => match us, hl with | [_, _], _ => rfl) a_Lsame l_Lsame c_Lsame k_Lsame
  have F_law := fun_mk (st := s_law) l_law c_law k_law
  have B : Bn mg := { bool := PySem.W.mg_none_of X G z_bool, int := PySem.W.mg_none_of X G z_int, isinstance := PySem.W.mg_none_of X G z_isinstance, len := PySem.W.mg_none_of X G z_len, max := PySem.W.mg_none_of X G z_max, range := PySem.W.mg_none_of X G z_range, str := PySem.W.mg_none_of X G z_str, tuple := PySem.W.mg_none_of X G z_tuple, g_SMALL := ⟨_, PySem.W.mg_of X G g_SMALL, r_SMALL⟩, g_DIGITS := ⟨_, PySem.W.mg_of X G g_DIGITS, r_DIGITS⟩ }
  refine ⟨PySem.W.fnOf "law" "law" (defArgs s_law) (defBody s_law) (defScope s_law) .none kV_law dc_law pm_law an_law cd_law ct_law, [(cc_under, tb_under), (cc_width, tb_width)], spLaw tb_under tb_width K, (by
    intro p hp
    simp only [List.mem_cons, List.not_mem_nil, or_false] at hp
    rcases hp with rfl | rfl
    · exact (tabs "under" (by simp) _ _ T_under).2
    · exact (tabs "width" (by simp) _ _ T_width).2), (by
    intro p hp
    simp only [List.mem_cons, List.not_mem_nil, or_false] at hp
    rcases hp with rfl | rfl
    · exact nt_under
    · exact nt_width), (by
    intro p hp
    simp only [List.mem_cons, List.not_mem_nil, or_false] at hp
    rcases hp with rfl | rfl
    · exact (tabs "under" (by simp) _ _ T_under).1
    · exact (tabs "width" (by simp) _ _ T_width).1), fun s v => .of_eq rfl, fun H a ns hl _ hT hS => ⟨a, ns, rfl, hS, hl, tabG0 (hT (cc_under, tb_under) (by simp)), tabG0 (hT (cc_width, tb_width) (by simp)), fun _ => rfl⟩, fun base _ _ TBs => ?_⟩
  have TB_under : GxR.TabB base mg cc_under tb_under := tabB_of (TBs (cc_under, tb_under) (by simp))
  have TB_width : GxR.TabB base mg cc_width tb_width := tabB_of (TBs (cc_width, tb_width) (by simp))
  have c1 := ok_Lcell (P := l.prog) (w := w) (base := base) B D_Lcell
  have c2 := ok_Ldraw (P := l.prog) (w := w) (K := K) (base := base) B D_Ldraw
  have c3 := ok_Ldigits (P := l.prog) (w := w) (base := base) B D_Ldigits c1
  have c4 := ok_Lbox (P := l.prog) (w := w) (base := base) B D_Lbox c3
  have c5 := ok_Lany (P := l.prog) (w := w) (base := base) B D_Lany c2 60
  have c6 := ok_Lput (P := l.prog) (w := w) (base := base) B D_Lput 60
  have c7 := ok_Llettered (P := l.prog) (w := w) (base := base) B D_Llettered c2 c6 c5
  have c9 := ok_Lsame (P := l.prog) (w := w) (base := base) B D_Lsame 65
  have td : TD K C_Reader := ⟨cl_Reader, n_Reader_rows, n_Reader_waiting, n_Reader_lines⟩
  have d1 := ok_Di (P := l.prog) (w := w) (base := base) td D_Reader___init__ mk_Reader kc_Reader m_Reader
  have d2 := ok_Ds (P := l.prog) (w := w) (mg := mg) (base := base) td D_Reader_sign
  have d3 := ok_Db (P := l.prog) (w := w) (base := base) B td D_Reader_read_before d2
  have d4 := ok_Dr (P := l.prog) (w := w) (base := base) B td D_Reader_read_row d2 d3
  have d5 := ok_Dg (P := l.prog) (w := w) (base := base) B td D_Reader_formula 63
  have d6 := ok_De (n := 60) (P := l.prog) (w := w) (base := base) B td D_Reader_read d4 d5
  have d7 := ok_Dd (n := 60) (P := l.prog) (w := w) (base := base) B td D_read_drawing d6 d1
  have u1 := ok_Lunder (P := l.prog) (w := w) (K := K) (base := base) B D_Lunder
  have e1 := ok_under (P := l.prog) (w := w) (base := base) B D_under TB_under
  have e2 := ok_draw (P := l.prog) (w := w) (base := base) B D_draw e1 60
  have e3 := ok_width (P := l.prog) (w := w) (base := base) B D_width TB_width e2
  have e4 := ok_height (P := l.prog) (w := w) (base := base) B D_height e2
  have e5 := ok_Ldrawing (P := l.prog) (w := w) (base := base) B D_Ldrawing u1 60
  exact ok_law B F_law c4 c7 c9 e5 d7 e2 e3 e4
end Cs
open PySem PySem.W PyProof.Rows
set_option maxRecDepth 100000 in
set_option maxHeartbeats 0 in
theorem PySem.Challenge.cw_conceptscript_k10_formulas_are_drawn_holds : PySem.Challenge.rw_conceptscript_k10_formulas_are_drawn.Holds := by
  w_on; o_law; k_head; (case hw => w_witness2)
  k_fill
  refine Cs.walkT (l := PySem.Challenge.rw_conceptscript_k10_formulas_are_drawn) (k := 130) ["under", "width"] rfl rfl ⟨rfl, by decide, by decide⟩ (by decide +kernel) (fun w h Y => PySem.W.kIn_of Y) ?F
  case F =>
    intro w mg fa h KX G hmg tabs
    refine' Cs.all_mk KX G hmg tabs ?a_Reader ?pg_Reader ?hd_Reader ?po_Reader ?sa_Reader ?mk_Reader ?kc_Reader ?n_Reader_rows ?n_Reader_waiting ?n_Reader_lines ?a_under ?l_under ?c_under ?k_under ?q_under ?t_under ?nt_under ?a_draw ?l_draw ?c_draw ?k_draw ?a_width ?l_width ?c_width ?k_width ?q_width ?t_width ?nt_width ?a_height ?l_height ?c_height ?k_height ?a_Reader___init__ ?i_Reader___init__ ?l_Reader___init__ ?c_Reader___init__ ?k_Reader___init__ ?a_Reader_sign ?i_Reader_sign ?l_Reader_sign ?c_Reader_sign ?k_Reader_sign ?a_Reader_read_before ?i_Reader_read_before ?l_Reader_read_before ?c_Reader_read_before ?k_Reader_read_before ?a_Reader_read_row ?i_Reader_read_row ?l_Reader_read_row ?c_Reader_read_row ?k_Reader_read_row ?a_Reader_formula ?i_Reader_formula ?l_Reader_formula ?c_Reader_formula ?k_Reader_formula ?a_Reader_read ?i_Reader_read ?l_Reader_read ?c_Reader_read ?k_Reader_read ?a_read_drawing ?l_read_drawing ?c_read_drawing ?k_read_drawing ?a_Lcell ?l_Lcell ?c_Lcell ?k_Lcell ?a_Ldigits ?l_Ldigits ?c_Ldigits ?k_Ldigits ?a_Lbox ?l_Lbox ?c_Lbox ?k_Lbox ?a_Ldraw ?l_Ldraw ?c_Ldraw ?k_Ldraw ?a_Lput ?l_Lput ?c_Lput ?k_Lput ?a_Lany ?l_Lany ?c_Lany ?k_Lany ?a_Llettered ?l_Llettered ?c_Llettered ?k_Llettered ?a_Lunder ?l_Lunder ?c_Lunder ?k_Lunder ?a_Ldrawing ?l_Ldrawing ?c_Ldrawing ?k_Ldrawing ?a_Lsame ?l_Lsame ?c_Lsame ?k_Lsame ?a_law ?l_law ?c_law ?k_law ?z_bool ?z_int ?z_isinstance ?z_len ?z_max ?z_range ?z_str ?z_tuple ?g_SMALL ?r_SMALL ?g_DIGITS ?r_DIGITS
    (case a_Reader => k_is)
    (case pg_Reader => k_is)
    (case hd_Reader => k_is)
    (case po_Reader => k_is)
    (case sa_Reader => k_is)
    (case mk_Reader => k_is)
    (case kc_Reader => k_is)
    (case n_Reader_rows => k_is)
    (case n_Reader_waiting => k_is)
    (case n_Reader_lines => k_is)
    (case a_under => k_is)
    (case l_under => k_is)
    (case c_under => k_is)
    (case k_under => k_is)
    (case q_under => k_is)
    (case t_under => exact rfl)
    (case nt_under => kernel_rfl)
    (case a_draw => k_is)
    (case l_draw => k_is)
    (case c_draw => k_is)
    (case k_draw => k_is)
    (case a_width => k_is)
    (case l_width => k_is)
    (case c_width => k_is)
    (case k_width => k_is)
    (case q_width => k_is)
    (case t_width => exact rfl)
    (case nt_width => kernel_rfl)
    (case a_height => k_is)
    (case l_height => k_is)
    (case c_height => k_is)
    (case k_height => k_is)
    (case a_Reader___init__ => k_is)
    (case i_Reader___init__ => k_is)
    (case l_Reader___init__ => k_is)
    (case c_Reader___init__ => k_is)
    (case k_Reader___init__ => k_is)
    (case a_Reader_sign => k_is)
    (case i_Reader_sign => k_is)
    (case l_Reader_sign => k_is)
    (case c_Reader_sign => k_is)
    (case k_Reader_sign => k_is)
    (case a_Reader_read_before => k_is)
    (case i_Reader_read_before => k_is)
    (case l_Reader_read_before => k_is)
    (case c_Reader_read_before => k_is)
    (case k_Reader_read_before => k_is)
    (case a_Reader_read_row => k_is)
    (case i_Reader_read_row => k_is)
    (case l_Reader_read_row => k_is)
    (case c_Reader_read_row => k_is)
    (case k_Reader_read_row => k_is)
    (case a_Reader_formula => k_is)
    (case i_Reader_formula => k_is)
    (case l_Reader_formula => k_is)
    (case c_Reader_formula => k_is)
    (case k_Reader_formula => k_is)
    (case a_Reader_read => k_is)
    (case i_Reader_read => k_is)
    (case l_Reader_read => k_is)
    (case c_Reader_read => k_is)
    (case k_Reader_read => k_is)
    (case a_read_drawing => k_is)
    (case l_read_drawing => k_is)
    (case c_read_drawing => k_is)
    (case k_read_drawing => k_is)
    (case a_Lcell => k_is)
    (case l_Lcell => k_is)
    (case c_Lcell => k_is)
    (case k_Lcell => k_is)
    (case a_Ldigits => k_is)
    (case l_Ldigits => k_is)
    (case c_Ldigits => k_is)
    (case k_Ldigits => k_is)
    (case a_Lbox => k_is)
    (case l_Lbox => k_is)
    (case c_Lbox => k_is)
    (case k_Lbox => k_is)
    (case a_Ldraw => k_is)
    (case l_Ldraw => k_is)
    (case c_Ldraw => k_is)
    (case k_Ldraw => k_is)
    (case a_Lput => k_is)
    (case l_Lput => k_is)
    (case c_Lput => k_is)
    (case k_Lput => k_is)
    (case a_Lany => k_is)
    (case l_Lany => k_is)
    (case c_Lany => k_is)
    (case k_Lany => k_is)
    (case a_Llettered => k_is)
    (case l_Llettered => k_is)
    (case c_Llettered => k_is)
    (case k_Llettered => k_is)
    (case a_Lunder => k_is)
    (case l_Lunder => k_is)
    (case c_Lunder => k_is)
    (case k_Lunder => k_is)
    (case a_Ldrawing => k_is)
    (case l_Ldrawing => k_is)
    (case c_Ldrawing => k_is)
    (case k_Ldrawing => k_is)
    (case a_Lsame => k_is)
    (case l_Lsame => k_is)
    (case c_Lsame => k_is)
    (case k_Lsame => k_is)
    (case a_law => k_is)
    (case l_law => k_is)
    (case c_law => k_is)
    (case k_law => k_is)
    (case z_bool => k_is)
    (case z_int => k_is)
    (case z_isinstance => k_is)
    (case z_len => k_is)
    (case z_max => k_is)
    (case z_range => k_is)
    (case z_str => k_is)
    (case z_tuple => k_is)
    (case g_SMALL => k_is)
    (case r_SMALL => exact ⟨_, rfl⟩)
    (case g_DIGITS => k_is)
    (case r_DIGITS => exact ⟨_, rfl⟩)
#print axioms PySem.Challenge.cw_conceptscript_k10_formulas_are_drawn_holds
