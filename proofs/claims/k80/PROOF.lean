import PyProof.Rows.All
import Wide.All
import OpenK.AllK
import Wide.FinOn
import HandS.ForMost
import HandS.IsInst
import HandS.AnyAll
import HandS.CallRecv
import HandS.Codes
import KE.KRevSl
import PyProof.Rows.StrRev
import PyProof.StrBlock2
import HandS.GenList
import PyProof.GenArm
import HandS.EndOwn
import KE.KNest
import PyProof.WalkInts
import HandS.ExcInit
import HandS.ClsMeth
import HandS.WordsExc
import HandS.Set
import HandS.SetTxt0
import HandS.Strs
import PyProof.Rows.SortShellAny
import HandS.SetBool
import HandS.TupSets
import KE.KExcIs
import HandS.ExcCtx
import HandS.ExcInitHot
import HandS.ExcField
import HandS.ExcIs
import HandS.Zip
import HandS.SetKeys
import HandS.Walk
import KE.SortData
import HandS.TupAny
import HandS.Deep
import PyProof.ListStr
import HandS.DictComp
import KE.KDictOf
import HandS.Conv
import HandS.Style
import HandS.FStr
import PySem.Challenge.RW_conceptscript_k80_formulas_are_unified
set_option Elab.async false
set_option linter.all false
set_option maxRecDepth 100000
set_option maxHeartbeats 2000000
namespace Cs
open PySem L2

/-! ### heaps that grow: all stays but the addresses of S; tuples, known things and code tables stay in any case -/
structure Gx (S : List Addr) (H H' : Hp) : Prop where
  keep : ∀ a u, a ∉ S → H a = some u → (∀ ps, u ≠ .tbl ps) → H' a = some u
  tup : ∀ a xs, H a = some (.tup xs) → H' a = some (.tup xs)
  frz : ∀ a o u, H a = some (.frz o u) → H' a = some (.frz o u)
  tab : ∀ a, GxR.TabG H a → GxR.TabG H' a
  dom : ∀ a, H' a = none → H a = none
abbrev Gr : Hp → Hp → Prop := Gx []
section
variable {S S' : List Addr} {H H1 H2 H' : Hp} {a p : Addr} {o u : HO} {K : PySem.W.Frag} {xs : List V}
theorem Gx.refl : Gx S H H := ⟨fun _ _ _ h _ => h, fun _ _ h => h, fun _ _ _ h => h, fun _ h => h, fun _ h => h⟩
theorem Gx.trans (x : Gx S H H1) (y : Gx S H1 H2) : Gx S H H2 :=
  ⟨fun a u n h z => y.keep a u n (x.keep a u n h z) z, fun a xs h => y.tup a xs (x.tup a xs h), fun a o u h => y.frz a o u (x.frz a o u h), fun a h => y.tab a (x.tab a h), fun a h => x.dom a (y.dom a h)⟩
theorem Gx.mono (x : Gx S H H1) (h : ∀ a ∈ S, a ∈ S') : Gx S' H H1 := ⟨fun a u n q z => x.keep a u (fun m => n (h a m)) q z, x.tup, x.frz, x.tab, x.dom⟩
theorem Gx.wk (x : Gr H H1) : Gx S H H1 := x.mono fun a h => nomatch h
theorem Gx.new (h : H p = none) : Gx S H (upd H p o) where
  keep := fun a u _ q _ => by rw [upd_ne (ne_of_none q h)]; exact q
  tup := fun a xs q => by rw [upd_ne (ne_of_none q h)]; exact q
  frz := fun a o u q => by rw [upd_ne (ne_of_none q h)]; exact q
  tab := fun a ⟨ps, q, t⟩ => ⟨ps, by rw [upd_ne (ne_of_none q h)]; exact q, t⟩
  dom := fun a q => by
    by_cases e : a = p
    · rw [e]; exact h
    · rw [upd_ne e] at q; exact q
/-- what may be changed at its place -/
def Mt : HO → Bool
  | .tup _ => false | .frz _ _ => false | .tbl _ => false | _ => true
theorem Gx.set (h : H p = some u) (m : Mt u = true) : Gx [p] H (upd H p o) where
  keep := fun a u n q _ => by rw [upd_ne (fun e => n (by rw [e]; exact List.mem_singleton_self _))]; exact q
  tup := fun a xs q => by rw [upd_ne (fun e => by rw [e, h] at q; cases q; cases m)]; exact q
  frz := fun a o u q => by rw [upd_ne (fun e => by rw [e, h] at q; cases q; cases m)]; exact q
  tab := fun a ⟨ps, q, t⟩ => ⟨ps, by rw [upd_ne (fun e => by rw [e, h] at q; cases q; cases m)]; exact q, t⟩
  dom := fun a q => by
    by_cases e : a = p
    · rw [e, upd_same] at q; cases q
    · rw [upd_ne e] at q; exact q
/-- an object that H did not know may change afterwards -/
theorem Gx.drop (x : Gx S H H1) (y : Gx S' H1 H2) (h : ∀ a ∈ S', a ∈ S ∨ H a = none) : Gx S H H2 :=
  ⟨fun a u n q z => y.keep a u (fun m => by
      rcases h a m with k | k
      · exact n k
      · rw [k] at q; cases q) (x.keep a u n q z) z, fun a xs h => y.tup a xs (x.tup a xs h), fun a o u h => y.frz a o u (x.frz a o u h), fun a h => y.tab a (x.tab a h), fun a h => x.dom a (y.dom a h)⟩
theorem Gx.sqT (x : Gx S H H') (h : SqT K H a xs) : SqT K H' a xs := by
  rcases h with (h | ⟨o, h⟩) | h
  · exact .inl (.inl (x.tup _ _ h))
  · exact .inl (.inr ⟨o, x.frz _ _ _ h⟩)
  · exact .inr h
theorem Gx.sqL (x : Gx S H H') (n : a ∉ S) (h : SqL K H a xs) : SqL K H' a xs := by
  rcases h with (h | ⟨o, h⟩) | h
  · exact .inl (.inl (x.keep _ _ n h fun ps e => nomatch e))
  · exact .inl (.inr ⟨o, x.frz _ _ _ h⟩)
  · exact .inr h
theorem Gx.lst (x : Gx S H H') (h : H a = some (.lst xs)) (n : a ∉ S) : H' a = some (.lst xs) := x.keep _ _ n h fun ps e => nomatch e
theorem Gx.sqG (x : Gr H H') (h : SqL K H a xs) : SqL K H' a xs := x.sqL (fun n => nomatch n) h
theorem Gx.ne (x : Gx S H H') (h : H a = some u) (h' : H' p = none) : a ≠ p := fun e => by
  have q := x.dom p h'
  rw [e, q] at h; cases h
end
theorem gr_some {H H' : Hp} (x : Gr H H') {a : Addr} {u : HO} (h : H a = some u) (n : ∀ ps, u ≠ .tbl ps) : H' a = some u := x.keep a u (fun m => nomatch m) h n

/-! ### data of tuples -/
mutual
inductive Dt (K : PySem.W.Frag) (H : Hp) : V → PyData → Prop
  | non : Dt K H .non .none
  | bl (b : Bool) : Dt K H (.bl b) (.bool b)
  | int (i : Int) : Dt K H (.int i) (.int i)
  | str (x : Str) : Dt K H (.str x) (.str x)
  | tup {a : Addr} {xs : List V} {ds : List PyData} : SqT K H a xs → DtAll K H xs ds → Dt K H (.ref a) (.tuple ds)
inductive DtAll (K : PySem.W.Frag) (H : Hp) : List V → List PyData → Prop
  | nil : DtAll K H [] []
  | cons {v : V} {vs : List V} {d : PyData} {ds : List PyData} : Dt K H v d → DtAll K H vs ds → DtAll K H (v :: vs) (d :: ds)
end
section
variable {S : List Addr} {H H' : Hp} {K : PySem.W.Frag}
mutual
theorem Dt.mono (x : Gx S H H') : ∀ (d : PyData) (v : V), Dt K H v d → Dt K H' v d
  | .none, _, h => by cases h; exact .non
  | .bool b, _, h => by cases h; exact .bl b
  | .int i, _, h => by cases h; exact .int i
  | .str s, _, h => by cases h; exact .str s
  | .tuple ds, _, h => by
    cases h with
    | tup q r => exact .tup (x.sqT q) (DtAll.mono x ds _ r)
  | .list _, _, h => by cases h
  | .dict _, _, h => by cases h
theorem DtAll.mono (x : Gx S H H') : ∀ (ds : List PyData) (vs : List V), DtAll K H vs ds → DtAll K H' vs ds
  | [], _, h => by cases h; exact .nil
  | d :: ds, _, h => by
    cases h with
    | cons q r => exact .cons (Dt.mono x d _ q) (DtAll.mono x ds _ r)
end
theorem Gx.dt (x : Gx S H H') {d : PyData} {v : V} (h : Dt K H v d) : Dt K H' v d := Dt.mono x d v h
theorem Gx.dts (x : Gx S H H') {ds : List PyData} {vs : List V} (h : DtAll K H vs ds) : DtAll K H' vs ds := DtAll.mono x ds vs h
mutual
theorem Dt.dp : ∀ (d : PyData) (v : V), Dt K H v d → Dp K H v d
  | .none, _, h => by cases h; exact .non
  | .bool b, _, h => by cases h; exact .bl b
  | .int i, _, h => by cases h; exact .int i
  | .str s, _, h => by cases h; exact .str s
  | .tuple ds, _, h => by
    cases h with
    | tup q r => exact .tup q (DtAll.dp ds _ r)
  | .list _, _, h => by cases h
  | .dict _, _, h => by cases h
theorem DtAll.dp : ∀ (ds : List PyData) (vs : List V), DtAll K H vs ds → DpAll K H vs ds
  | [], _, h => by cases h; exact .nil
  | d :: ds, _, h => by
    cases h with
    | cons q r => exact .cons (Dt.dp d _ q) (DtAll.dp ds _ r)
end
theorem DtAll.len {vs : List V} {ds : List PyData} (h : DtAll K H vs ds) : vs.length = ds.length := by
  induction ds generalizing vs with
  | nil => cases h; rfl
  | cons d ds ih =>
    cases h with
    | cons q r => rw [List.length_cons, List.length_cons, ih r]
theorem DtAll.get : ∀ {ds : List PyData} {vs : List V} {i : Nat} {d : PyData}, DtAll K H vs ds → ds[i]? = some d → ∃ v, vs[i]? = some v ∧ Dt K H v d
  | [], _, i, d, _, h => by simp at h
  | d :: ds, _, 0, e, .cons q r, h => by
    simp at h; subst h
    exact ⟨_, rfl, q⟩
  | d :: ds, _, i + 1, e, .cons q r, h => by
    obtain ⟨v, h1, h2⟩ := DtAll.get (i := i) r (by simpa using h)
    exact ⟨v, by simpa using h1, h2⟩
theorem Dt.tupI {v : V} {ds : List PyData} (h : Dt K H v (.tuple ds)) : ∃ a xs, v = .ref a ∧ SqT K H a xs ∧ DtAll K H xs ds := by
  cases h with
  | tup q r => exact ⟨_, _, rfl, q, r⟩
theorem DtAll.app : ∀ {ds es : List PyData} {vs ws : List V}, DtAll K H vs ds → DtAll K H ws es → DtAll K H (vs ++ ws) (ds ++ es)
  | [], _, _, _, .nil, s => s
  | _ :: _, _, _, _, .cons q r, s => .cons q (DtAll.app r s)
end

/-! ### equality of data -/
mutual
def hasDict : PyData → Bool
  | .dict _ => true
  | .list xs => hasDicts xs
  | .tuple xs => hasDicts xs
  | _ => false
def hasDicts : List PyData → Bool
  | [] => false
  | x :: xs => hasDict x || hasDicts xs
end

/-! ### formulas -/
inductive Fm where
  | lt (n : Str)
  | ng (p : Fm)
  | im (p q : Fm)
  deriving DecidableEq
namespace Fm
def size : Fm → Nat
  | .lt _ => 1
  | .ng p => 1 + p.size
  | .im p q => 1 + (p.size + q.size)
def depth : Fm → Nat
  | .lt _ => 1
  | .ng p => p.depth + 1
  | .im p q => max p.depth q.depth + 1
/-- all letters, as they stand -/
def lets : Fm → List Str
  | .lt n => [n]
  | .ng p => p.lets
  | .im p q => p.lets ++ q.lets
def d : Fm → PyData
  | .lt n => .tuple [.str "letter", .str n]
  | .ng p => .tuple [.str "not", p.d]
  | .im p q => .tuple [.str "if", p.d, q.d]
theorem size_pos : ∀ f : Fm, 1 ≤ f.size
  | .lt _ => Nat.le_refl _
  | .ng _ => Nat.le_add_right _ _
  | .im _ _ => Nat.le_add_right _ _
theorem depth_le : ∀ f : Fm, f.depth ≤ f.size
  | .lt _ => Nat.le_refl _
  | .ng p => by have := depth_le p; simp only [size, depth]; omega
  | .im p q => by have := depth_le p; have := depth_le q; simp only [size, depth]; omega
end Fm
abbrev FmV (K : PySem.W.Frag) (H : Hp) (v : V) (f : Fm) : Prop := Dt K H v f.d
section
variable {S : List Addr} {H H' : Hp} {K : PySem.W.Frag} {v : V} {n : Str} {p q : Fm}
theorem fm_lt (h : FmV K H v (.lt n)) : ∃ a, v = .ref a ∧ SqT K H a [.str "letter", .str n] := by
  obtain ⟨a, xs, rfl, h1, h2⟩ := Dt.tupI h
  cases h2 with
  | cons q1 r1 =>
    cases r1 with
    | cons q2 r2 =>
      cases r2; cases q1; cases q2
      exact ⟨a, rfl, h1⟩
theorem fm_ng (h : FmV K H v (.ng p)) : ∃ a x, v = .ref a ∧ SqT K H a [.str "not", x] ∧ FmV K H x p := by
  obtain ⟨a, xs, rfl, h1, h2⟩ := Dt.tupI h
  cases h2 with
  | cons q1 r1 =>
    cases r1 with
    | cons q2 r2 =>
      cases r2; cases q1
      exact ⟨a, _, rfl, h1, q2⟩
theorem fm_im (h : FmV K H v (.im p q)) : ∃ a x y, v = .ref a ∧ SqT K H a [.str "if", x, y] ∧ FmV K H x p ∧ FmV K H y q := by
  obtain ⟨a, xs, rfl, h1, h2⟩ := Dt.tupI h
  cases h2 with
  | cons q1 r1 =>
    cases r1 with
    | cons q2 r2 =>
      cases r2 with
      | cons q3 r3 =>
        cases r3; cases q1
        exact ⟨a, _, _, rfl, h1, q2, q3⟩
theorem mk_lt {a : Addr} (h : SqT K H a [.str "letter", .str n]) : FmV K H (.ref a) (.lt n) := .tup h (.cons (.str _) (.cons (.str _) .nil))
theorem mk_ng {a : Addr} {x : V} (h : SqT K H a [.str "not", x]) (h1 : FmV K H x p) : FmV K H (.ref a) (.ng p) := .tup h (.cons (.str _) (.cons h1 .nil))
theorem mk_im {a : Addr} {x y : V} (h : SqT K H a [.str "if", x, y]) (h1 : FmV K H x p) (h2 : FmV K H y q) : FmV K H (.ref a) (.im p q) := .tup h (.cons (.str _) (.cons h1 (.cons h2 .nil)))
end
/-- every formula's value: its kind and its parts -/
inductive FmC (K : PySem.W.Frag) (H : Hp) : V → Fm → Prop
  | lt {a : Addr} {n : Str} : SqT K H a [.str "letter", .str n] → FmC K H (.ref a) (.lt n)
  | ng {a : Addr} {x : V} {p : Fm} : SqT K H a [.str "not", x] → FmV K H x p → FmC K H (.ref a) (.ng p)
  | im {a : Addr} {x y : V} {p q : Fm} : SqT K H a [.str "if", x, y] → FmV K H x p → FmV K H y q → FmC K H (.ref a) (.im p q)
theorem FmV.c {K : PySem.W.Frag} {H : Hp} {v : V} : ∀ {f : Fm}, FmV K H v f → FmC K H v f
  | .lt n, h => by obtain ⟨a, rfl, h1⟩ := fm_lt h; exact .lt h1
  | .ng p, h => by obtain ⟨a, x, rfl, h1, h2⟩ := fm_ng h; exact .ng h1 h2
  | .im p q, h => by obtain ⟨a, x, y, rfl, h1, h2, h3⟩ := fm_im h; exact .im h1 h2 h3
end Cs

namespace Cs
open PySem PySem.Spec PyProof.Rows L2

/-- a def of the module, as the top has left it -/
structure Df (K : PySem.W.Frag) (mg : Str → Option Value) (x : Str) (st : Stmt) (ps : List Str) : Prop where
  ex : ∃ f fd, Fun K x x st f fd ∧ mg x = some (.ref f) ∧ Binds K fd ps []
/-- a def that keeps a promise -/
structure Cl (CX : CXT) (P : Program) (w : World) (K : PySem.W.Frag) (mg : Str → Option Value) (base : Heap) (k : Nat) (x : Str) (sp : Sp) : Prop where
  ex : ∃ f fd ps, FnOk P w K mg base CX k f fd ps sp ∧ mg x = some (.ref f) ∧ PySem.W.keepIn K (.ref f) = true ∧ Binds K fd ps []
section
variable {CX : CXT} {P : Program} {w : World} {K : PySem.W.Frag} {mg : Str → Option Value} {base : Heap} {k j : Nat} {x : Str} {sp sp' : Sp}
theorem FnOk.lift {f : Addr} {fd : FuncData} {ps : List Str} (F : FnOk P w K mg base CX0 k f fd ps sp) : FnOk P w K mg base CX k f fd ps sp :=
  ⟨F.len, fun A outer s H args us vs Q E hr he hb hv hs => codeAny_mono (F.run A outer s H args us vs Q E hr he hb hv hs) fun r s' h => by
    cases r with
    | error e => exact False.elim h
    | ok fl => cases fl <;> exact h⟩
theorem Cl.lift (c : Cl CX0 P w K mg base k x sp) : Cl CX P w K mg base k x sp := by
  obtain ⟨f, fd, ps, F, r⟩ := c.ex
  exact ⟨f, fd, ps, FnOk.lift F, r⟩
theorem Cl.up (c : Cl CX P w K mg base k x sp) (h : k ≤ j) : Cl CX P w K mg base j x sp := by
  obtain ⟨f, fd, ps, F, r⟩ := c.ex
  exact ⟨f, fd, ps, F.mono h, r⟩
theorem Cl.imp (c : Cl CX P w K mg base k x sp) (h : ∀ vs H Q E, sp' vs H Q E → sp vs H Q E) : Cl CX P w K mg base k x sp' := by
  obtain ⟨f, fd, ps, F, r⟩ := c.ex
  exact ⟨f, fd, ps, FnOk.imp F h, r⟩
/-- THE RULE for a def from which no exception leaves -/
theorem Df.ok {st : Stmt} {N ps : List Str} (D : Df K mg x st ps) (S : FnScope N ps (defScope st)) (len : ∀ vs H Q E, sp vs H Q E → vs.length = ps.length)
    (hbody : ∀ (f : Addr) (cdv : Value) (A : Around) (outer : List Env) (s : Shared) (H : Hp) (vs : List V) (Q : VK) (E : XK), Room k (A.deeper (envOfC x (defScope st) s.heap.objs.size f cdv)) → sp vs H Q E →
      ∃ t, PSs (cxOf CX0 P w K mg base N x (defScope st) f cdv A outer s H E).nox (defBody st) t ∧ t { nx := fun _ H' => Q .non H', rt := Q } (start N vs) H) : Cl CX0 P w K mg base (k + 1) x sp := by
  obtain ⟨f, fd, F, hm, hb⟩ := D.ex
  exact ⟨f, fd, ps, F.ok S len (hbody f), hm, F.kp, hb⟩
/-- nothing is asked of it -/
theorem Df.none {st : Stmt} {ps : List Str} (D : Df K mg x st ps) (no : ∀ vs H Q E, ¬ sp vs H Q E) : Cl CX P w K mg base k x sp := by
  obtain ⟨f, fd, F, hm, hb⟩ := D.ex
  exact ⟨f, fd, ps, ⟨fun vs H Q E h => absurd h (no vs H Q E), fun A outer s H args us vs Q E _ _ _ _ h => absurd h (no vs H Q E)⟩, hm, F.kp, hb⟩
theorem df_mk {st : Stmt} {f : Addr} {h : Heap} {oc : Value} {od an : Option Addr} {osl : Array (Option Value)} {kV doc pm cdv ct : Value} {ps : List Str} (X : K.In h) (G : h.Ns mainGlobals mg)
    (hb : ∀ (kV doc pm : Value) (an : Option Addr) (cdv ct : Value) (us : List Value), us.length = ps.length → bindArgs (PySem.W.fnOf x x (defArgs st) (defBody st) (defScope st) .none kV doc pm an cdv ct) ⟨us, []⟩ = pure (ps.zip us))
    (a : PySem.W.nsIn K mainGlobals x = some (some (.ref f))) (l : K.lookup f = some ⟨oc, od, .func (PySem.W.fnOf x x (defArgs st) (defBody st) (defScope st) .none kV doc pm an cdv ct), osl⟩)
    (c : PySem.W.codeIn K cdv x = true) (k : PySem.W.keepIn K (.ref f) = true) : Df K mg x st ps :=
  ⟨f, _, fun_mk l c k, PySem.W.mg_of X G a, Fun.binds (fun_mk l c k) hb⟩
end
section
variable {X : Cx} {CX : CXT} {k j : Nat} {E : XK} {x : Str} {sp : Sp} {p pos : Pos} {e : Expr} {es : List Expr} {t : TA}
theorem pc (c : Cl CX X.prog X.w X.K X.mg X.base k x sp) (hr : Room j X.A) (hk : k ≤ j) (hg : Gl X x) (hx : Passes CX X E) (ha : PA X (e :: es) t)
    (hdb : (x == ("__debug__" : Str)) = false := by decide) (he : starEach (e :: es) X.env = (false, eval e X.env) :: starEach es X.env := by rfl) (hpl : (backTo pos (starEach es X.env)).any (·.1) = false := by rfl) :
    PE X (.Call (.Name x p) (e :: es) [] pos) (tCall sp [] E t) := by
  obtain ⟨f, fd, ps, F, hm, hkp, hb⟩ := c.ex
  exact pe_call F (hr.mono hk) hg hm hkp hb .nil hx ha hdb he hpl
theorem pc0 (c : Cl CX X.prog X.w X.K X.mg X.base k x sp) (hr : Room j X.A) (hk : k ≤ j) (hg : Gl X x) (hx : Passes CX X E) (hdb : (x == ("__debug__" : Str)) = false := by decide) :
    PE X (.Call (.Name x p) [] [] pos) (tCall sp [] E tNil) := by
  obtain ⟨f, fd, ps, F, hm, hkp, hb⟩ := c.ex
  exact pe_call0 F (hr.mono hk) hg hm hkp hb .nil hx hdb
end

/-! ### a class and its methods -/
/-- a method of the class at C, as the top has left it -/
structure Dm (K : PySem.W.Frag) (C : Addr) (m qual : Str) (st : Stmt) (ps : List Str) : Prop where
  ex : ∃ f fd, Fun K m qual st f fd ∧ PySem.W.findIn K (.ref C) m = some (some (.ref f)) ∧ PySem.W.isFn K (.ref f) = true ∧ Binds K fd ps []
structure Ml (CX : CXT) (P : Program) (w : World) (K : PySem.W.Frag) (mg : Str → Option Value) (base : Heap) (k : Nat) (C : Addr) (m : Str) (sp : Sp) : Prop where
  ex : ∃ f fd ps, FnOk P w K mg base CX k f fd ps sp ∧ Meth K C m f ∧ Binds K fd ps []
structure Mm (CX : CXT) (P : Program) (w : World) (K : PySem.W.Frag) (mg : Str → Option Value) (base : Heap) (k : Nat) (x : Str) (C : Addr) (sp : Sp) : Prop where
  ex : ∃ f fd ps, FnOk P w K mg base CX k f fd ps sp ∧ Mk K C f ∧ mg x = some (.ref C) ∧ Binds K fd ps []
section
variable {CX : CXT} {P : Program} {w : World} {K : PySem.W.Frag} {mg : Str → Option Value} {base : Heap} {k j : Nat} {C : Addr} {x m qual : Str} {sp sp' : Sp} {st : Stmt} {N ps : List Str}
theorem Dm.ok (D : Dm K C m qual st ps) (S : FnScope N ps (defScope st)) (len : ∀ vs H Q E, sp vs H Q E → vs.length = ps.length)
    (hbody : ∀ (f : Addr) (cdv : Value) (A : Around) (outer : List Env) (s : Shared) (H : Hp) (vs : List V) (Q : VK) (E : XK), Room k (A.deeper (envOfC qual (defScope st) s.heap.objs.size f cdv)) → sp vs H Q E →
      ∃ t, PSs (cxOf CX0 P w K mg base N qual (defScope st) f cdv A outer s H E).nox (defBody st) t ∧ t { nx := fun _ H' => Q .non H', rt := Q } (start N vs) H) : Ml CX0 P w K mg base (k + 1) C m sp := by
  obtain ⟨f, fd, F, hm, hf, hb⟩ := D.ex
  exact ⟨f, fd, ps, F.ok S len (hbody f), ⟨hm, hf, F.kp⟩, hb⟩
theorem Dm.okM (D : Dm K C "__init__" qual st ps) (hmk : PySem.W.makesIn K C = true) (hkc : PySem.W.keepIn K (.ref C) = true) (hx : mg x = some (.ref C)) (S : FnScope N ps (defScope st)) (len : ∀ vs H Q E, sp vs H Q E → vs.length = ps.length)
    (hbody : ∀ (f : Addr) (cdv : Value) (A : Around) (outer : List Env) (s : Shared) (H : Hp) (vs : List V) (Q : VK) (E : XK), Room k (A.deeper (envOfC qual (defScope st) s.heap.objs.size f cdv)) → sp vs H Q E →
      ∃ t, PSs (cxOf CX0 P w K mg base N qual (defScope st) f cdv A outer s H E).nox (defBody st) t ∧ t { nx := fun _ H' => Q .non H', rt := Q } (start N vs) H) : Mm CX0 P w K mg base (k + 1) x C sp := by
  obtain ⟨f, fd, F, hm, hf, hb⟩ := D.ex
  exact ⟨f, fd, ps, F.ok S len (hbody f), ⟨hmk, hm, hf, hkc⟩, hx, hb⟩
theorem Ml.lift (c : Ml CX0 P w K mg base k C m sp) : Ml CX P w K mg base k C m sp := by
  obtain ⟨f, fd, ps, F, r⟩ := c.ex
  exact ⟨f, fd, ps, FnOk.lift F, r⟩
theorem Mm.lift (c : Mm CX0 P w K mg base k x C sp) : Mm CX P w K mg base k x C sp := by
  obtain ⟨f, fd, ps, F, r⟩ := c.ex
  exact ⟨f, fd, ps, FnOk.lift F, r⟩
theorem dm_mk {f : Addr} {oc : Value} {od an : Option Addr} {osl : Array (Option Value)} {kV doc pm cdv ct : Value}
    (hb : ∀ (kV doc pm : Value) (an : Option Addr) (cdv ct : Value) (us : List Value), us.length = ps.length → bindArgs (PySem.W.fnOf m qual (defArgs st) (defBody st) (defScope st) .none kV doc pm an cdv ct) ⟨us, []⟩ = pure (ps.zip us))
    (a : PySem.W.findIn K (.ref C) m = some (some (.ref f))) (i : PySem.W.isFn K (.ref f) = true) (l : K.lookup f = some ⟨oc, od, .func (PySem.W.fnOf m qual (defArgs st) (defBody st) (defScope st) .none kV doc pm an cdv ct), osl⟩)
    (c : PySem.W.codeIn K cdv qual = true) (k : PySem.W.keepIn K (.ref f) = true) : Dm K C m qual st ps :=
  ⟨f, _, fun_mk l c k, a, i, Fun.binds (fun_mk l c k) hb⟩
end
section
variable {X : Cx} {CX : CXT} {k j : Nat} {C : Addr} {E : XK} {x m : Str} {sp : Sp} {p pos apos : Pos} {e o : Expr} {es : List Expr} {t : TA} {ta : TE}
theorem ps0 : Passes CX0 X E0 := fun _ _ _ _ _ _ _ h => h.elim
theorem pm {pl : Sem Bool} (cl : Cls X.K C) (c : Ml CX X.prog X.w X.K X.mg X.base k C m sp) (hr : Room j X.A) (hk : k ≤ j) (hx : Passes CX X E) (he : PE X o ta) (ha : PA X (e :: es) t)
    (hst : starEach (e :: es) X.env = (false, eval e X.env) :: starEach es X.env := by rfl) (hpl : (backTo pos (starEach es X.env)).any (·.1) = false := by rfl)
    (ht : eval (.Call (.Attribute o m apos) (e :: es) [] pos) X.env = (do
      let ov ← eval o X.env
      standAt apos.atName
      let (f, first) ← holding [ov] (getMethod ov m pl)
      callWith pos f first (backTo pos (starEach (e :: es) X.env)) (backToKw pos (keywordEach [] X.env))) := by rfl) :
    PE X (.Call (.Attribute o m apos) (e :: es) [] pos) (tMeth C m sp [] E ta t) := by
  obtain ⟨f, fd, ps, F, hm, hb⟩ := c.ex
  exact pe_meth (pl := pl) he cl hm F (hr.mono hk) hb .nil hx ha hst hpl ht
theorem pm0 {pl : Sem Bool} (cl : Cls X.K C) (c : Ml CX X.prog X.w X.K X.mg X.base k C m sp) (hr : Room j X.A) (hk : k ≤ j) (hx : Passes CX X E) (he : PE X o ta)
    (ht : eval (.Call (.Attribute o m apos) [] [] pos) X.env = (do
      let ov ← eval o X.env
      standAt apos.atName
      let (f, first) ← holding [ov] (getMethod ov m pl)
      callWith pos f first (backTo pos (starEach [] X.env)) (backToKw pos (keywordEach [] X.env))) := by rfl) :
    PE X (.Call (.Attribute o m apos) [] [] pos) (tMeth C m sp [] E ta tNil) := by
  obtain ⟨f, fd, ps, F, hm, hb⟩ := c.ex
  exact pe_meth0 (pl := pl) he cl hm F (hr.mono hk) hb .nil hx ht
theorem pk (c : Mm CX X.prog X.w X.K X.mg X.base k x C sp) (hr : Room j X.A) (hk : k + 1 ≤ j) (hg : Gl X x) (hx : Passes CX X E) (ha : PA X (e :: es) t)
    (hdb : (x == ("__debug__" : Str)) = false := by decide) (he : starEach (e :: es) X.env = (false, eval e X.env) :: starEach es X.env := by rfl) (hpl : (backTo pos (starEach es X.env)).any (·.1) = false := by rfl) :
    PE X (.Call (.Name x p) (e :: es) [] pos) (tMake C sp [] E t) := by
  obtain ⟨f, fd, ps, F, M, hm, hb⟩ := c.ex
  exact pe_make M F (hr.mono hk) hg hm hb .nil hx ha hdb he hpl
theorem pk0 (c : Mm CX X.prog X.w X.K X.mg X.base k x C sp) (hr : Room j X.A) (hk : k + 1 ≤ j) (hg : Gl X x) (hx : Passes CX X E)
    (hdb : (x == ("__debug__" : Str)) = false := by decide) : PE X (.Call (.Name x p) [] [] pos) (tMake C sp [] E tNil) := by
  obtain ⟨f, fd, ps, F, M, hm, hb⟩ := c.ex
  exact pe_make0 M F (hr.mono hk) hg hm hb .nil hx hdb
end

theorem szlt {n m : Nat} (h : n ≤ m) (hm : m ≤ 100000) : n < sizeLine := Nat.lt_of_le_of_lt (Nat.le_trans h hm) (by decide)
theorem szle {n m : Nat} (h : n ≤ m) (hm : m ≤ 100000) : n ≤ sizeLine := Nat.le_of_lt (szlt h hm)
theorem at0 {α : Type} {x : α} {xs : List α} : atI (x :: xs) 0 = some x := atI_nat (j := 0) rfl
theorem at1 {α : Type} {x y : α} {xs : List α} : atI (x :: y :: xs) 1 = some y := atI_nat (j := 1) rfl
theorem at2 {α : Type} {x y z : α} {xs : List α} : atI (x :: y :: z :: xs) 2 = some z := atI_nat (j := 2) rfl
theorem hA_gr {H H1 : Hp} {p : Addr} {o : HO} (h : upd H p o = H1) (hp : H p = none) : Gr H H1 ∧ H1 p = some o := by subst h; exact ⟨Gx.new hp, upd_same⟩
theorem pgc {X : Cx} {x : Str} {pos : Pos} {v : V} (hg : Gl X x) (h : ∃ u, X.mg x = some u ∧ RelV v u) (hd : (x == ("__debug__" : Str)) = false := by decide) : PE X (.Name x pos) (tC v) := by
  obtain ⟨u, h1, h2⟩ := h
  exact pe_glob hg h1 h2 hd

/-! ### the box: a list [digits, place] -/
structure Bx (H : Hp) (b : Addr) : Prop where
  ex : ∃ (dg : Addr) (at_ : Int) (ds : List Int), H b = some (.lst [.ref dg, .int at_]) ∧ 0 ≤ at_ ∧ H dg = some (.lst (ds.map V.int)) ∧ ds.length ≤ 4000 ∧ (∀ d ∈ ds, 0 ≤ d ∧ d < 1000) ∧ dg ≠ b
theorem Bx.gx {S : List Addr} {H H' : Hp} {b : Addr} (x : Gx S H H') (h : ∀ a ∈ S, a ≠ b ∧ ∀ xs, H a ≠ some (.lst xs)) (B : Bx H b) : Bx H' b := by
  obtain ⟨dg, at_, ds, h1, h2, h3, h4, h5, h6⟩ := B.ex
  exact ⟨dg, at_, ds, x.lst h1 fun m => (h b m).1 rfl, h2, x.lst h3 (fun m => (h dg m).2 _ h3), h4, h5, h6⟩
theorem Bx.gr {H H' : Hp} {b : Addr} (x : Gr H H') (B : Bx H b) : Bx H' b := B.gx x fun a h => nomatch h
end Cs

namespace Cs
open PySem PySem.Spec PyProof.Rows L2
namespace Fm
def isLt : Fm → Bool
  | .lt _ => true | _ => false
def isIm : Fm → Bool
  | .im _ _ => true | _ => false
def tag : Fm → Str
  | .lt _ => "letter" | .ng _ => "not" | .im _ _ => "if"
def kids : Fm → List Fm
  | .lt _ => [] | .ng p => [p] | .im p q => [p, q]
def put (t : Str → Option Fm) : Fm → Fm
  | .lt n => (t n).getD (.lt n)
  | .ng p => .ng (p.put t)
  | .im p q => .im (p.put t) (q.put t)
theorem d_node : ∀ {f : Fm}, f.isLt = false → f.d = .tuple (.str f.tag :: f.kids.map d)
  | .lt _, h => nomatch h
  | .ng _, _ => rfl
  | .im _ _, _ => rfl
theorem put_node (t : Str → Option Fm) : ∀ {f : Fm}, f.isLt = false → (f.put t).d = .tuple (.str f.tag :: f.kids.map fun g => (g.put t).d)
  | .lt _, h => nomatch h
  | .ng _, _ => rfl
  | .im _ _, _ => rfl
theorem tag_ne : ∀ {f : Fm}, f.isLt = false → decide (V.str f.tag = V.str "letter") = false
  | .lt _, h => nomatch h
  | .ng _, _ => (by decide +kernel : decide (V.str "not" = V.str "letter") = false)
  | .im _ _, _ => (by decide +kernel : decide (V.str "if" = V.str "letter") = false)
theorem kids_ne : ∀ {f : Fm}, f.isLt = false → f.kids ≠ []
  | .lt _, h => nomatch h
  | .ng _, _ => List.cons_ne_nil _ _
  | .im _ _, _ => List.cons_ne_nil _ _
theorem kids_len : ∀ f : Fm, f.kids.length ≤ 2
  | .lt _ => Nat.zero_le _
  | .ng _ => Nat.le_succ _
  | .im _ _ => Nat.le_refl _
theorem kids_depth : ∀ {f g : Fm}, g ∈ f.kids → g.depth < f.depth
  | .lt _, _, h => nomatch h
  | .ng p, g, h => by
    rw [List.mem_singleton.mp h]; exact Nat.lt_succ_self _
  | .im p q, g, h => by
    have e : (Fm.im p q).depth = max p.depth q.depth + 1 := rfl
    rcases List.mem_cons.mp h with h | h
    · rw [h, e]; exact Nat.lt_succ_of_le (Nat.le_max_left _ _)
    · rw [List.mem_singleton.mp h, e]; exact Nat.lt_succ_of_le (Nat.le_max_right _ _)
theorem depth_pos : ∀ f : Fm, 1 ≤ f.depth
  | .lt _ => Nat.le_refl _
  | .ng _ => Nat.le_add_left _ _
  | .im _ _ => Nat.le_add_left _ _
/-- letters for letters: the same size, the new letters -/
theorem put_lets {t : Str → Option Fm} {A : List Str} {B : Str → Prop} (h : ∀ n ∈ A, ∃ m, t n = some (.lt m) ∧ B m) : ∀ f : Fm, (∀ x ∈ f.lets, x ∈ A) → (f.put t).size = f.size ∧ ∀ x ∈ (f.put t).lets, B x
  | .lt n, hf => by
    obtain ⟨m, e, b⟩ := h n (hf n (List.mem_singleton_self _))
    show ((t n).getD (.lt n)).size = 1 ∧ ∀ x ∈ ((t n).getD (.lt n)).lets, B x
    rw [e]
    exact ⟨rfl, fun x hx => by rw [List.mem_singleton.mp hx]; exact b⟩
  | .ng p, hf => by
    obtain ⟨a, b⟩ := put_lets h p hf
    exact ⟨by show 1 + (p.put t).size = 1 + p.size; rw [a], b⟩
  | .im p q, hf => by
    obtain ⟨a, b⟩ := put_lets h p fun x hx => hf x (List.mem_append_left _ hx)
    obtain ⟨a2, b2⟩ := put_lets h q fun x hx => hf x (List.mem_append_right _ hx)
    exact ⟨by show 1 + ((p.put t).size + (q.put t).size) = 1 + (p.size + q.size); rw [a, a2], fun x hx => (List.mem_append.mp hx).elim (b x) (b2 x)⟩
/-- the text -/
def tx : Fm → List Nat
  | .lt n => n.cps.toList
  | .ng p => 126 :: (if p.isIm then [40] ++ p.tx ++ [41] else p.tx)
  | .im p q => (if p.isIm then [40] ++ p.tx ++ [41] else p.tx) ++ [32, 45, 62, 32] ++ q.tx
def gr (p : Fm) : List Nat := if p.isIm then [40] ++ p.tx ++ [41] else p.tx
theorem tx_ng (p : Fm) : (Fm.ng p).tx = 126 :: p.gr := rfl
theorem tx_im (p q : Fm) : (Fm.im p q).tx = p.gr ++ [32, 45, 62, 32] ++ q.tx := rfl
/-- letters of at most two signs -/
def Sh (f : Fm) : Prop := ∀ x ∈ f.lets, x.length ≤ 2
theorem Sh.ng {p : Fm} (h : Sh (.ng p)) : Sh p := h
theorem Sh.l {p q : Fm} (h : Sh (.im p q)) : Sh p := fun x hx => h x (List.mem_append_left _ hx)
theorem Sh.r {p q : Fm} (h : Sh (.im p q)) : Sh q := fun x hx => h x (List.mem_append_right _ hx)
theorem tx_len : ∀ (f : Fm), Sh f → f.tx.length ≤ 8 * f.size
  | .lt n, h => by
    have := h n (List.mem_singleton_self _)
    show n.cps.toList.length ≤ 8 * 1
    rw [Array.length_toList]; exact Nat.le_trans this (by omega)
  | .ng p, h => by
    have ih := tx_len p h.ng
    simp only [tx, size]
    split <;> simp only [List.length_cons, List.length_append, List.length_nil] <;> omega
  | .im p q, h => by
    have i1 := tx_len p h.l
    have i2 := tx_len q h.r
    simp only [tx, size]
    split <;> simp only [List.length_cons, List.length_append, List.length_nil] <;> omega
theorem gr_len (f : Fm) (h : Sh f) : f.gr.length ≤ 8 * f.size + 2 := by
  have := tx_len f h
  unfold gr
  split
  · simp only [List.length_cons, List.length_append, List.length_nil]; omega
  · omega
end Fm
section
variable {K : PySem.W.Frag} {H H' : Hp} {v : V} {f : Fm}
theorem fm_node (h : FmV K H v f) (hl : f.isLt = false) : ∃ a xs, v = .ref a ∧ SqT K H a (.str f.tag :: xs) ∧ DtAll K H xs (f.kids.map Fm.d) := by
  unfold FmV at h
  rw [Fm.d_node hl] at h
  obtain ⟨a, xs, rfl, h1, h2⟩ := h.tupI
  cases h2 with
  | cons q1 r1 => cases q1; exact ⟨a, _, rfl, h1, r1⟩
theorem fm_tup (h : FmV K H v f) : ∃ a xs, v = .ref a ∧ SqT K H a (.str f.tag :: xs) := by
  rcases h.c with h1 | ⟨h1, _⟩ | ⟨h1, _, _⟩ <;> exact ⟨_, _, rfl, h1⟩
end

/-! ### tables: dicts from letters to formulas -/
structure Tb (K : PySem.W.Frag) (H : Hp) (d : Addr) (N : Nat) (t : Str → Option Fm) : Prop where
  ex : ∃ kvs : List (Key × V), H d = some (.dK kvs) ∧ kvs.length ≤ N ∧ ∀ n, (t n = none ∧ valV kvs (.inr n) = none) ∨ ∃ f v, t n = some f ∧ valV kvs (.inr n) = some v ∧ FmV K H v f
theorem Tb.gx {K : PySem.W.Frag} {S : List Addr} {H H' : Hp} {d : Addr} {N : Nat} {t : Str → Option Fm} (x : Gx S H H') (n : d ∉ S) (T : Tb K H d N t) : Tb K H' d N t := by
  obtain ⟨kvs, h1, h2, h3⟩ := T.ex
  exact ⟨kvs, x.keep _ _ n h1 (fun ps e => nomatch e), h2, fun m => (h3 m).imp id fun ⟨f, v, a, b, c⟩ => ⟨f, v, a, b, x.dt c⟩⟩
theorem putK_len {κ : Type} [DecidableEq κ] (kvs : List (κ × V)) (k : κ) (v : V) : (putK kvs k v).length ≤ kvs.length + 1 := by
  unfold putK
  split
  · rw [List.length_map]; omega
  · rw [List.length_append]; exact Nat.le_refl _
theorem Tb.dput {K : PySem.W.Frag} {H : Hp} {d : Addr} {N : Nat} {t : Str → Option Fm} {v : V} {f : Fm} (n : Str) (T : Tb K H d N t) (hf : FmV K H v f) :
    ∃ kvs, H d = some (.dK kvs) ∧ kvs.length ≤ N ∧ Gx [d] H (upd H d (.dK (putK kvs (.inr n) v))) ∧ Tb K (upd H d (.dK (putK kvs (.inr n) v))) d (N + 1) (fun m => if m = n then some f else t m) := by
  obtain ⟨kvs, h1, h2, h3⟩ := T.ex
  have g : Gx [d] H (upd H d (.dK (putK kvs (.inr n) v))) := Gx.set h1 rfl
  refine ⟨kvs, h1, h2, g, _, upd_same, Nat.le_trans (putK_len _ _ _) (Nat.succ_le_succ h2), fun m => ?_⟩
  rw [valV_put]
  by_cases e : m = n
  · subst e
    exact .inr ⟨f, v, if_pos rfl, if_pos rfl, g.dt hf⟩
  · have e2 : ¬ (Sum.inr m : Key) = Sum.inr n := fun z => e (Sum.inr.inj z)
    rw [if_neg e2]
    rcases h3 m with ⟨a, b⟩ | ⟨f', v', a, b, c⟩
    · exact .inl ⟨by show (if m = n then some f else t m) = none; rw [if_neg e]; exact a, b⟩
    · exact .inr ⟨f', v', by show (if m = n then some f else t m) = some f'; rw [if_neg e]; exact a, b, g.dt c⟩
theorem Tb.new {K : PySem.W.Frag} {H : Hp} {d : Addr} (h : H d = some (.dK [])) : Tb K H d 0 (fun _ => none) := ⟨[], h, Nat.le_refl _, fun n => .inl ⟨rfl, rfl⟩⟩
theorem tyx_tup {K : PySem.W.Frag} {H : Hp} {a : Addr} {xs : List V} (h : SqT K H a xs) : TyX K H (.ref a) (.type "tuple") := by
  rcases h with (h | ⟨o, h⟩) | ⟨o, its, n, h, c, _⟩
  · exact .base (.tup h)
  · exact .fTuple h
  · exact .kTuple h c

theorem depthAll_mem : ∀ {ds : List PyData} {d : PyData}, d ∈ ds → d.depth ≤ PyData.depthAll ds
  | [], _, h => nomatch h
  | e :: ds, d, h => by
    simp only [PyData.depthAll]
    rcases List.mem_cons.mp h with rfl | h
    · exact Nat.le_max_left _ _
    · exact Nat.le_trans (depthAll_mem h) (Nat.le_max_right _ _)
/-- tuples of few items -/
def fine : PyData → Bool
  | .tuple ds => decide (ds.length ≤ 100000) && fines ds
  | _ => true
where fines : List PyData → Bool
  | [] => true
  | d :: ds => fine d && fines ds
theorem fines_mem : ∀ {ds : List PyData} {d : PyData}, fine.fines ds = true → d ∈ ds → fine d = true
  | [], _, _, h => nomatch h
  | e :: ds, d, h, m => by
    have h' : (fine e && fine.fines ds) = true := by rw [fine.fines] at h; exact h
    rw [Bool.and_eq_true] at h'
    rcases List.mem_cons.mp m with rfl | m
    · exact h'.1
    · exact fines_mem h'.2 m
theorem fine_tup {ds : List PyData} (h : fine (.tuple ds) = true) : ds.length ≤ 100000 ∧ ∀ d ∈ ds, fine d = true := by
  rw [fine, Bool.and_eq_true, decide_eq_true_eq] at h
  exact ⟨h.1, fun d m => fines_mem h.2 m⟩
theorem fine_mk {ds : List PyData} (h : ds.length ≤ 100000) (h2 : ∀ d ∈ ds, fine d = true) : fine (.tuple ds) = true := by
  rw [fine, Bool.and_eq_true, decide_eq_true_eq]
  refine ⟨h, ?_⟩
  clear h
  induction ds with
  | nil => rw [fine.fines]
  | cons d ds ih => rw [fine.fines, h2 d List.mem_cons_self, ih fun e m => h2 e (List.mem_cons_of_mem _ m)]; rfl
theorem Fm.d_fine : ∀ f : Fm, fine f.d = true
  | .lt n => by simp [Fm.d, fine, fine.fines]
  | .ng p => by simp [Fm.d, fine, fine.fines, d_fine p]
  | .im p q => by simp [Fm.d, fine, fine.fines, d_fine p, d_fine q]
theorem Fm.d_depth : ∀ f : Fm, f.d.depth = f.depth
  | .lt n => by simp [Fm.d, Fm.depth, PyData.depth, PyData.depthAll]
  | .ng p => by simp [Fm.d, Fm.depth, PyData.depth, PyData.depthAll, d_depth p]
  | .im p q => by simp [Fm.d, Fm.depth, PyData.depth, PyData.depthAll, d_depth p, d_depth q]
end Cs

namespace Cs
open PySem PySem.Spec PyProof.Rows L2
/-! ### reading a text sign by sign: plain law -/
def small (c : Nat) : Bool := decide (97 ≤ c) && decide (c ≤ 122)
def digit (c : Nat) : Bool := decide (48 ≤ c) && decide (c ≤ 57)
abbrev Grp := List Fm × Nat
def negs : Nat → Fm → Fm
  | 0, f => f
  | n + 1, f => negs n (.ng f)
def grpF : List Fm → Fm
  | [] => .lt ⟨#[]⟩
  | [f] => f
  | f :: r => .im f (grpF r)
structure RS where
  p : Nat
  gs : List Grp      -- the top first
  wants : Bool
def addG (f : Fm) : List Grp → List Grp
  | [] => []
  | (ps, n) :: r => (ps ++ [negs n f], 0) :: r
def nameAt (t : List Nat) (p c : Nat) : List Nat := match t[p + 1]? with
  | some d => if digit d then [c, d] else [c]
  | none => [c]
def startS (t : List Nat) (s : RS) (c : Nat) : Option RS :=
  if c = 126 then match s.gs with
    | (ps, n) :: r => some ⟨s.p + 1, (ps, n + 1) :: r, s.wants⟩
    | [] => none
  else if c = 40 then some ⟨s.p + 1, ([], 0) :: s.gs, s.wants⟩
  else if small c then some ⟨s.p + (nameAt t s.p c).length, addG (.lt ⟨(nameAt t s.p c).toArray⟩) s.gs, false⟩
  else none
def goS (t : List Nat) (s : RS) (c : Nat) : Option RS :=
  if c = 45 then (if t[s.p + 1]? = some 62 then some ⟨s.p + 2, s.gs, true⟩ else none)
  else if c = 41 then match s.gs with
    | g :: h :: r => some ⟨s.p + 1, addG (grpF g.1) (h :: r), s.wants⟩
    | _ => none
  else none
def stepS (t : List Nat) (s : RS) : Option RS := match t[s.p]? with
  | none => none
  | some c => if c = 32 then some ⟨s.p + 1, s.gs, s.wants⟩ else if s.wants then startS t s c else goS t s c
inductive Run (t : List Nat) : RS → RS → Prop
  | refl (s : RS) : Run t s s
  | more {s s1 s2 : RS} : stepS t s = some s1 → Run t s1 s2 → Run t s s2
theorem Run.trans {t : List Nat} {a b c : RS} (x : Run t a b) (y : Run t b c) : Run t a c := by
  induction x with
  | refl => exact y
  | more h _ ih => exact .more h (ih y)
/-- a name of a letter -/
def Nm (n : Str) : Prop := ∃ c, small c = true ∧ (n.cps.toList = [c] ∨ ∃ d, digit d = true ∧ n.cps.toList = [c, d])
def Named (f : Fm) : Prop := ∀ x ∈ f.lets, Nm x
theorem Named.ng {p : Fm} (h : Named (.ng p)) : Named p := h
theorem Named.l {p q : Fm} (h : Named (.im p q)) : Named p := fun x hx => h x (List.mem_append_left _ hx)
theorem Named.r {p q : Fm} (h : Named (.im p q)) : Named q := fun x hx => h x (List.mem_append_right _ hx)
/-- no digit comes next -/
def Nxt (r : List Nat) : Prop := ∀ c, r.head? = some c → digit c = false
def spine : Fm → List Fm
  | .im p q => p :: spine q
  | f => [f]
theorem spine_ne : ∀ f : Fm, spine f ≠ []
  | .im _ _ => List.cons_ne_nil _ _
  | .lt _ => List.cons_ne_nil _ _
  | .ng _ => List.cons_ne_nil _ _
theorem grpF_spine : ∀ f : Fm, grpF (spine f) = f
  | .lt _ => rfl
  | .ng _ => rfl
  | .im p q => by
    have h := grpF_spine q
    show grpF (p :: spine q) = .im p q
    cases e : spine q with
    | nil => exact absurd e (spine_ne q)
    | cons x r => rw [e] at h; show Fm.im p (grpF (x :: r)) = _; rw [h]
theorem at_app {pre r : List Nat} {c : Nat} : (pre ++ c :: r)[pre.length]? = some c := by
  rw [List.getElem?_append_right (Nat.le_refl _), Nat.sub_self]; rfl
theorem at_app1 {pre r : List Nat} {c d : Nat} : (pre ++ c :: d :: r)[pre.length + 1]? = some d := by
  rw [List.getElem?_append_right (Nat.le_succ _), show pre.length + 1 - pre.length = 1 by omega]; rfl
theorem at_app1' {pre r : List Nat} {c : Nat} : (pre ++ c :: r)[pre.length + 1]? = r.head? := by
  rw [List.getElem?_append_right (Nat.le_succ _), show pre.length + 1 - pre.length = 1 by omega]
  cases r <;> rfl
theorem small_ne {c : Nat} (h : small c = true) : c ≠ 32 ∧ c ≠ 126 ∧ c ≠ 40 ∧ c ≠ 45 ∧ c ≠ 41 := by
  unfold small at h
  rw [Bool.and_eq_true, decide_eq_true_eq, decide_eq_true_eq] at h
  omega
theorem run_letter {pre rest : List Nat} {n : Str} (hn : Nm n) (hr : Nxt rest) (ps : List Fm) (k : Nat) (gs : List Grp) :
    Run (pre ++ (n.cps.toList ++ rest)) ⟨pre.length, (ps, k) :: gs, true⟩ ⟨pre.length + n.cps.toList.length, (ps ++ [negs k (.lt n)], 0) :: gs, false⟩ := by
  obtain ⟨c, hc, h⟩ := hn
  obtain ⟨c1, c2, c3, c4, c5⟩ := small_ne hc
  have nn : ∀ l : List Nat, n.cps.toList = l → (⟨l.toArray⟩ : Str) = n := fun l e => by rw [← e]
  rcases h with e | ⟨d, hd, e⟩
  · rw [e]
    refine .more ?_ (.refl _)
    unfold stepS
    rw [show (pre ++ ([c] ++ rest)) = pre ++ c :: rest from rfl, at_app]
    simp only [if_neg c1, if_true]
    unfold startS
    rw [if_neg c2, if_neg c3, if_pos hc]
    have en : nameAt (pre ++ c :: rest) pre.length c = [c] := by
      unfold nameAt
      rw [at_app1']
      cases q : rest.head? with
      | none => rfl
      | some d => show (if digit d = true then [c, d] else [c]) = [c]; rw [hr d q]; rfl
    simp only [en, nn _ e]
    rfl
  · rw [e]
    refine .more ?_ (.refl _)
    unfold stepS
    rw [show (pre ++ ([c, d] ++ rest)) = pre ++ c :: d :: rest from rfl, at_app]
    simp only [if_neg c1, if_true]
    unfold startS
    rw [if_neg c2, if_neg c3, if_pos hc]
    have en : nameAt (pre ++ c :: d :: rest) pre.length c = [c, d] := by
      unfold nameAt
      rw [at_app1]
      show (if digit d = true then [c, d] else [c]) = [c, d]
      rw [hd]; rfl
    simp only [en, nn _ e]
    rfl
theorem nxt_sp {r : List Nat} {c : Nat} (h : digit c = false) : Nxt (c :: r) := fun d e => by
  have : c = d := Option.some.inj e
  rw [← this]; exact h
theorem Nxt.nil : Nxt [] := fun c h => nomatch h
theorem step_ng {pre r : List Nat} {ps : List Fm} {k : Nat} {gs : List Grp} : stepS (pre ++ 126 :: r) ⟨pre.length, (ps, k) :: gs, true⟩ = some ⟨pre.length + 1, (ps, k + 1) :: gs, true⟩ := by
  unfold stepS
  rw [at_app]; rfl
theorem step_lp {pre r : List Nat} {gs : List Grp} : stepS (pre ++ 40 :: r) ⟨pre.length, gs, true⟩ = some ⟨pre.length + 1, ([], 0) :: gs, true⟩ := by
  unfold stepS
  rw [at_app]; rfl
theorem step_rp {pre r : List Nat} {g h : Grp} {gs : List Grp} : stepS (pre ++ 41 :: r) ⟨pre.length, g :: h :: gs, false⟩ = some ⟨pre.length + 1, addG (grpF g.1) (h :: gs), false⟩ := by
  unfold stepS
  rw [at_app]; rfl
theorem step_sp {pre r : List Nat} {gs : List Grp} {w : Bool} : stepS (pre ++ 32 :: r) ⟨pre.length, gs, w⟩ = some ⟨pre.length + 1, gs, w⟩ := by
  unfold stepS
  rw [at_app]; rfl
theorem step_ar {pre r : List Nat} {gs : List Grp} : stepS (pre ++ 45 :: 62 :: r) ⟨pre.length, gs, false⟩ = some ⟨pre.length + 2, gs, true⟩ := by
  unfold stepS
  rw [at_app]
  show goS _ _ 45 = _
  unfold goS
  rw [at_app1]; rfl
theorem len1 (pre : List Nat) (c : Nat) : (pre ++ [c]).length = pre.length + 1 := by rw [List.length_append]; rfl
theorem mv1 (pre : List Nat) (c : Nat) (r : List Nat) : pre ++ c :: r = (pre ++ [c]) ++ r := by rw [List.append_assoc]; rfl
mutual
theorem run_gr : ∀ (f : Fm), Named f → ∀ (pre rest : List Nat), Nxt rest → ∀ (ps : List Fm) (k : Nat) (gs : List Grp),
    Run (pre ++ (f.gr ++ rest)) ⟨pre.length, (ps, k) :: gs, true⟩ ⟨pre.length + f.gr.length, (ps ++ [negs k f], 0) :: gs, false⟩
  | .lt n, hn, pre, rest, hr, ps, k, gs => run_letter (hn n (List.mem_singleton_self _)) hr ps k gs
  | .ng p, hn, pre, rest, hr, ps, k, gs => by
    have ih := run_gr p hn.ng (pre ++ [126]) rest hr ps (k + 1) gs
    rw [len1] at ih
    have e : (Fm.ng p).gr = 126 :: p.gr := rfl
    rw [e, List.cons_append, mv1]
    refine .more (by rw [← mv1]; exact step_ng) ?_
    rw [show pre.length + (126 :: p.gr).length = pre.length + 1 + p.gr.length by rw [List.length_cons]; omega]
    exact ih
  | .im p q, hn, pre, rest, hr, ps, k, gs => by
    have ih := run_tx (.im p q) hn (pre ++ [40]) (41 :: rest) (nxt_sp rfl) [] (((ps, k)) :: gs)
    rw [len1] at ih
    have e : (Fm.im p q).gr = 40 :: ((Fm.im p q).tx ++ [41]) := rfl
    rw [e, List.cons_append, mv1, List.append_assoc (Fm.im p q).tx]
    refine .more (by rw [← mv1]; exact step_lp) (ih.trans (.more (s1 := ⟨pre.length + 1 + (Fm.im p q).tx.length + 1, addG (grpF ([] ++ spine (.im p q))) ((ps, k) :: gs), false⟩) ?_ ?_))
    · have e2 : (pre ++ [40]) ++ ((Fm.im p q).tx ++ 41 :: rest) = ((pre ++ [40]) ++ (Fm.im p q).tx) ++ 41 :: rest := (List.append_assoc _ _ _).symm
      have e3 : ((pre ++ [40]) ++ (Fm.im p q).tx).length = pre.length + 1 + (Fm.im p q).tx.length := by rw [List.length_append, len1]
      rw [e2, ← e3]
      exact step_rp
    · rw [List.nil_append, grpF_spine, show pre.length + (40 :: ((Fm.im p q).tx ++ [41])).length = pre.length + 1 + (Fm.im p q).tx.length + 1 by rw [List.length_cons, List.length_append]; simp only [List.length_cons, List.length_nil]; omega]
      exact .refl _
theorem run_tx : ∀ (f : Fm), Named f → ∀ (pre rest : List Nat), Nxt rest → ∀ (ps : List Fm) (gs : List Grp),
    Run (pre ++ (f.tx ++ rest)) ⟨pre.length, (ps, 0) :: gs, true⟩ ⟨pre.length + f.tx.length, (ps ++ spine f, 0) :: gs, false⟩
  | .lt n, hn, pre, rest, hr, ps, gs => run_letter (hn n (List.mem_singleton_self _)) hr ps 0 gs
  | .ng p, hn, pre, rest, hr, ps, gs => by
    have ih := run_gr p hn.ng (pre ++ [126]) rest hr ps 1 gs
    rw [len1] at ih
    rw [Fm.tx_ng, List.cons_append, mv1]
    refine .more (by rw [← mv1]; exact step_ng) ?_
    rw [show pre.length + (126 :: p.gr).length = pre.length + 1 + p.gr.length by rw [List.length_cons]; omega]
    exact ih
  | .im p q, hn, pre, rest, hr, ps, gs => by
    have i1 := run_gr p hn.l pre (32 :: 45 :: 62 :: 32 :: (q.tx ++ rest)) (nxt_sp rfl) ps 0 gs
    have i2 := run_tx q hn.r (pre ++ p.gr ++ [32, 45, 62, 32]) rest hr (ps ++ [p]) gs
    have e : pre ++ ((Fm.im p q).tx ++ rest) = pre ++ (p.gr ++ (32 :: 45 :: 62 :: 32 :: (q.tx ++ rest))) := by
      rw [Fm.tx_im]; simp only [List.append_assoc]; rfl
    rw [e]
    refine i1.trans ?_
    have e1 : pre ++ (p.gr ++ (32 :: 45 :: 62 :: 32 :: (q.tx ++ rest))) = (pre ++ p.gr) ++ 32 :: 45 :: 62 :: 32 :: (q.tx ++ rest) := by rw [List.append_assoc]
    have l1 : pre.length + p.gr.length = (pre ++ p.gr).length := by rw [List.length_append]
    rw [e1, l1]
    refine .more step_sp ?_
    rw [mv1, ← len1]
    refine .more step_ar ?_
    have e2 : pre ++ p.gr ++ [32] ++ 45 :: 62 :: 32 :: (q.tx ++ rest) = (pre ++ p.gr ++ [32, 45, 62]) ++ 32 :: (q.tx ++ rest) := by simp only [List.append_assoc]; rfl
    have l2 : (pre ++ p.gr ++ [32]).length + 2 = (pre ++ p.gr ++ [32, 45, 62]).length := by simp only [List.length_append]; rfl
    rw [e2, l2]
    refine .more step_sp ?_
    have e3 : (pre ++ p.gr ++ [32, 45, 62]) ++ 32 :: (q.tx ++ rest) = (pre ++ p.gr ++ [32, 45, 62, 32]) ++ (q.tx ++ rest) := by simp only [List.append_assoc]; rfl
    have l3 : (pre ++ p.gr ++ [32, 45, 62]).length + 1 = (pre ++ p.gr ++ [32, 45, 62, 32]).length := by simp only [List.length_append]; rfl
    rw [e3, l3]
    have l4 : (pre ++ p.gr ++ [32, 45, 62, 32]).length + q.tx.length = pre.length + (Fm.im p q).tx.length := by rw [Fm.tx_im]; simp only [List.length_append]; omega
    rw [show (pre ++ p.gr).length = pre.length + p.gr.length by rw [List.length_append]] at *
    rw [l4, List.append_assoc ps] at i2
    exact i2
end
theorem read_tx {f : Fm} (h : Named f) : Run f.tx ⟨0, [([], 0)], true⟩ ⟨f.tx.length, [(spine f, 0)], false⟩ := by
  have q := run_tx f h [] [] .nil [] []
  rw [List.append_nil, List.nil_append] at q
  rw [show ([] : List Nat).length + f.tx.length = f.tx.length by rw [List.length_nil, Nat.zero_add]] at q
  exact q
end Cs

namespace Cs
open PySem PySem.Spec PyProof.Rows L2
/-! ### xs[-2::-1]: all but the last one, from behind -/
theorem fm_congr {α β : Type} {f g : α → Option β} : ∀ {l : List α}, (∀ x ∈ l, f x = g x) → l.filterMap f = l.filterMap g
  | [], _ => rfl
  | x :: l, h => by
    rw [List.filterMap_cons, List.filterMap_cons, h x List.mem_cons_self, fm_congr fun y hy => h y (List.mem_cons_of_mem _ hy)]
theorem back_pick (items : List Value) : slicePick items.toArray (some (-2)) none (some (-1)) = items.dropLast.reverse.toArray := by
  have hb : sliceBounds (some (-2)) none (some (-1)) items.toArray.size = (((items.dropLast.toArray.size : Nat) : Int) - 1, -1, -1) := by
    simp only [sliceBounds, List.size_toArray, List.length_dropLast, Option.getD_some]
    refine Prod.ext ?_ rfl
    show max (-1) (min ((-2 : Int) + (items.length : Int)) ((items.length : Int) - 1)) = ((items.length - 1 : Nat) : Int) - 1
    omega
  unfold slicePick
  rw [hb]
  show ((sliceRange (((items.dropLast.toArray.size : Nat) : Int) - 1) (-1) (-1)).filterMap (items.toArray[·]?)).toArray = _
  have e : (sliceRange (((items.dropLast.toArray.size : Nat) : Int) - 1) (-1) (-1)).filterMap (items.toArray[·]?) = (sliceRange (((items.dropLast.toArray.size : Nat) : Int) - 1) (-1) (-1)).filterMap (items.dropLast.toArray[·]?) := by
    rw [PySem.W.krv_sliceRange, PySem.W.krv_range]
    refine fm_congr fun j hj => ?_
    have hj' : j < items.dropLast.length := by
      have := List.mem_range.mp (List.mem_reverse.mp hj)
      simpa using this
    show items.toArray[j]? = items.dropLast.toArray[j]?
    rw [List.getElem?_toArray, List.getElem?_toArray, List.getElem?_dropLast, if_pos (by rw [List.length_dropLast] at hj'; exact hj')]
  rw [e]
  have := PySem.W.krv_pick items.dropLast.toArray
  unfold slicePick at this
  rw [PySem.W.krv_bounds] at this
  exact this
def tBackL (K : PySem.W.Frag) (te : TE) : TE := fun σ H Q => te σ H fun x H1 => ∃ a xs, x = .ref a ∧ SqL K H1 a xs ∧ ∀ p, H1 p = none → Q (.ref p) (upd H1 p (.lst xs.dropLast.reverse))
theorem pe_backL {X : Cx} {e : Expr} {te : TE} {k k2 : Nat} {p1 p2 p3 p4 p5 pos : Pos} (he : PE X e te) : PE X (.Subscript e (.Slice (some (.UnaryOp .USub (.Constant (.int 2) k2 p4) p5)) none (some (.UnaryOp .USub (.Constant (.int 1) k p1) p2)) p3) pos) (tBackL X.K te) := by
  refine ⟨fun pins s σ H Q I h => ?_⟩
  refine Subscript_ (thn (he.run pins s σ H _ I h) fun v s1 ⟨x, H1, I1, r1, q1⟩ => ?_)
  obtain ⟨a, xs, ex, hx, q⟩ := q1
  subst ex
  cases r1
  have hst : PO X (some (.UnaryOp .USub (.Constant (.int 1) k p1) p2)) (tPart (tUn (rU fun i => .int (-i)) (tC (.int 1)))) := po_some (pe_un un_neg pe_int)
  have hlo : PO X (some (.UnaryOp .USub (.Constant (.int 2) k2 p4) p5)) (tPart (tUn (rU fun i => .int (-i)) (tC (.int 2)))) := po_some (pe_un un_neg pe_int)
  refine wpAny_Slice (thn (hlo.run pins s1 σ H1 (fun o H2 => o = some (-2) ∧ H2 = H1) I1 ⟨2, rfl, -2, rfl, rfl, rfl⟩) fun vl s2 ⟨l, H2, I2, pl, el, e2⟩ => ?_)
  subst el e2
  refine thn (po_none.run pins s2 σ H2 (fun o H3 => o = none ∧ H3 = H2) I2 ⟨rfl, rfl⟩) fun vu s3 ⟨u, H3, I3, pu, eu, e3⟩ => ?_
  subst eu e3
  refine thn (hst.run pins s3 σ H3 (fun o H4 => o = some (-1) ∧ H4 = H3) I3 ⟨1, rfl, -1, rfl, rfl, rfl⟩) fun vs s4 ⟨o, H4, I4, ps, eo, e4⟩ => ?_
  subst eo e4
  have I5 : Inv X pins σ H4 { s4 with heap := s4.heap.push { cls := .type "slice", data := .fields #[vl, vu, vs] } } := I4.kept (t' := s4.toks) fun b ob q => Heap.get?_push_of_some _ q
  obtain ⟨its, r, ht, hz⟩ := I5.list hx
  have hlen := r.length
  show wpAny (model X.prog X.w) X.A (subscriptTail e (.Slice (some (.UnaryOp .USub (.Constant (.int 2) k2 p4) p5)) none (some (.UnaryOp .USub (.Constant (.int 1) k p1) p2)) p3) (.ref a) (.ref s4.heap.objs.size)) (EP X pins σ Q) X.xe { s4 with heap := s4.heap.push { cls := .type "slice", data := .fields #[vl, vu, vs] } }
  refine tail_any (ops := [.ref a, .ref s4.heap.objs.size]) ht.isList.typeIs (PySem.slot_list_getitem.lookup) ?_ (by with_unfolding_all rfl)
  refine wpAny_getItem_list_slice ht.isList (Heap.IsSliceOf.new _ vl vu vs) pl pu ps (by decide) ?_ (by rw [List.size_toArray]; omega)
  rw [back_pick]
  have rd : Vals xs.dropLast.reverse its.dropLast.reverse := by
    rw [List.dropLast_eq_take, List.dropLast_eq_take, ← hlen]
    exact (r.take (xs.length - 1)).reverse
  refine ⟨.ref _, _, I5.laid (t' := s4.toks) (o := .lst xs.dropLast.reverse) (fun b ob q => Heap.get?_push_of_some _ q) (Nat.le_refl _) ?_, rfl, q _ (I5.hok.fresh (Nat.le_refl _))⟩
  exact ⟨by rw [List.length_reverse, List.length_dropLast]; omega, _, 0, rd, Heap.get?_push_size _ rfl⟩
end Cs

namespace Cs
open PySem PySem.Spec PyProof.Rows L2
/-! ### the groups and the reader as objects -/
def gf (l : Addr) (n : Nat) : List (Str × V) := [("parts", .ref l), ("negations", .int n)]
def rf (t : List Nat) (p : Nat) (gl : Addr) (w : Bool) : List (Str × V) := [("text", .str (SX.S t)), ("place", .int p), ("groups", .ref gl), ("wants", .bl w)]
theorem k1 : ¬ (("parts" : Str) = "negations") := by decide +kernel
theorem k2 : ¬ (("text" : Str) = "place") := by decide +kernel
theorem k3 : ¬ (("text" : Str) = "groups") := by decide +kernel
theorem k4 : ¬ (("text" : Str) = "wants") := by decide +kernel
theorem k5 : ¬ (("place" : Str) = "groups") := by decide +kernel
theorem k6 : ¬ (("place" : Str) = "wants") := by decide +kernel
theorem k7 : ¬ (("groups" : Str) = "wants") := by decide +kernel
theorem k8 : ¬ (("text" : Str) = "parts") := by decide +kernel
theorem gf_0 (l : Addr) : putF "parts" (.ref l) [] = [(("parts" : Str), V.ref l)] := rfl
theorem gf_1 (l : Addr) (n : Nat) : putF "negations" (.int n) [(("parts" : Str), V.ref l)] = gf l n := by
  simp only [putF, if_neg k1]; rfl
theorem gf_put (l : Addr) (n m : Nat) : putF "negations" (.int m) (gf l n) = gf l m := by
  simp only [gf, putF, if_neg k1, if_true]
theorem lk_ne {f g : Str} {v : V} {r : List (Str × V)} (h : ¬ (g = f)) : List.lookup f ((g, v) :: r) = List.lookup f r := by
  rw [List.lookup_cons]
  have : (f == g) = false := by
    cases e : f == g
    · rfl
    · exact absurd (eq_of_beq e).symm h
  rw [this]
theorem lk_eq {f : Str} {v : V} {r : List (Str × V)} : List.lookup f ((f, v) :: r) = some v := by
  rw [List.lookup_cons, beq_self_eq_true]
theorem gf_parts (l : Addr) (n : Nat) : (gf l n).lookup ("parts" : Str) = some (.ref l) := lk_eq
theorem gf_neg (l : Addr) (n : Nat) : (gf l n).lookup ("negations" : Str) = some (.int n) := by
  unfold gf; rw [lk_ne k1, lk_eq]
theorem gf_no (l : Addr) (n : Nat) {m : Str} (h1 : ¬ ("parts" : Str) = m) (h2 : ¬ ("negations" : Str) = m) : (gf l n).lookup m = none := by
  unfold gf; rw [lk_ne h1, lk_ne h2]; rfl
section
variable (t : List Nat) (p q : Nat) (gl : Addr) (w : Bool)
theorem rf_text : (rf t p gl w).lookup ("text" : Str) = some (.str (SX.S t)) := lk_eq
theorem rf_place : (rf t p gl w).lookup ("place" : Str) = some (.int p) := by unfold rf; rw [lk_ne k2, lk_eq]
theorem rf_groups : (rf t p gl w).lookup ("groups" : Str) = some (.ref gl) := by unfold rf; rw [lk_ne k3, lk_ne k5, lk_eq]
theorem rf_wants : (rf t p gl w).lookup ("wants" : Str) = some (.bl w) := by unfold rf; rw [lk_ne k4, lk_ne k6, lk_ne k7, lk_eq]
theorem rf_no {m : Str} (h1 : ¬ ("text" : Str) = m) (h2 : ¬ ("place" : Str) = m) (h3 : ¬ ("groups" : Str) = m) (h4 : ¬ ("wants" : Str) = m) : (rf t p gl w).lookup m = none := by
  unfold rf; rw [lk_ne h1, lk_ne h2, lk_ne h3, lk_ne h4]; rfl
theorem rf_pp : putF "place" (.int q) (rf t p gl w) = rf t q gl w := by
  simp only [rf, putF, if_neg k2, if_true]
theorem rf_pw (v : Bool) : putF "wants" (.bl v) (rf t p gl w) = rf t p gl v := by
  simp only [rf, putF, if_neg k4, if_neg k6, if_neg k7, if_true]
theorem rf_1 : putF "text" (.str (SX.S t)) [] = [(("text" : Str), V.str (SX.S t))] := rfl
theorem rf_2 : putF "place" (.int p) [(("text" : Str), V.str (SX.S t))] = [(("text" : Str), V.str (SX.S t)), ("place", .int p)] := by
  simp only [putF, if_neg k2]
theorem rf_3 : putF "groups" (.ref gl) [(("text" : Str), V.str (SX.S t)), ("place", .int p)] = [(("text" : Str), V.str (SX.S t)), ("place", .int p), ("groups", .ref gl)] := by
  simp only [putF, if_neg k3, if_neg k5]
theorem rf_4 : putF "wants" (.bl w) [(("text" : Str), V.str (SX.S t)), ("place", .int p), ("groups", .ref gl)] = rf t p gl w := by
  simp only [putF, if_neg k4, if_neg k6, if_neg k7]; rfl
end
/-- a group stands at g, its list at l -/
structure GrpAt (K : PySem.W.Frag) (CG : Addr) (H : Hp) (g l : Addr) (ps : List Fm) (n : Nat) : Prop where
  ob : ∃ dx, H g = some (.ins CG dx (gf l n))
  ls : ∃ xs, H l = some (.lst xs) ∧ DtAll K H xs (ps.map Fm.d)
theorem GrpAt.gx {K : PySem.W.Frag} {CG : Addr} {S : List Addr} {H H' : Hp} {g l : Addr} {ps : List Fm} {n : Nat} (x : Gx S H H') (hg : g ∉ S) (hl : l ∉ S) (G : GrpAt K CG H g l ps n) : GrpAt K CG H' g l ps n := by
  obtain ⟨⟨dx, h1⟩, xs, h2, h3⟩ := G
  exact ⟨⟨dx, x.keep _ _ hg h1 fun ps e => nomatch e⟩, xs, x.lst h2 hl, x.dts h3⟩
theorem ins_ne {C D dx dy l gl : Addr} {t : List Nat} {p n : Nat} {w : Bool} : HO.ins C dx (rf t p gl w) ≠ HO.ins D dy (gf l n) := fun e => by
  injection e with _ _ e
  have e2 : (("text" : Str), V.str (SX.S t)) = (("parts" : Str), V.ref l) := (List.cons.inj e).1
  exact k8 (Prod.mk.inj e2).1
/-- a reader stands at r: its list of groups at gl, the groups (the top first) and their lists at as; all of it new since H0 -/
structure RdX (K : PySem.W.Frag) (CG CR : Addr) (H0 H : Hp) (r : Addr) (t : List Nat) (s : RS) (dx gl : Addr) (as : List (Addr × Addr)) : Prop where
  gr : Gr H0 H
  ob : H r = some (.ins CR dx (rf t s.p gl s.wants))
  gs : H gl = some (.lst (as.map fun x => V.ref x.1).reverse)
  al : Paired (fun (a : Addr × Addr) (g : Grp) => GrpAt K CG H a.1 a.2 g.1 g.2) as s.gs
  n1 : (as.map (·.1)).Nodup
  n2 : (gl :: as.map (·.2)).Nodup
  r0 : H0 r = none
  g0 : H0 gl = none
  a0 : ∀ a ∈ as, H0 a.1 = none ∧ H0 a.2 = none
def RdAt (K : PySem.W.Frag) (CG CR : Addr) (H0 H : Hp) (r : Addr) (t : List Nat) (s : RS) : Prop := ∃ dx gl as, RdX K CG CR H0 H r t s dx gl as
theorem paired_mem {α β : Type} {F : α → β → Prop} : ∀ {l : List α} {m : List β} {a : α}, Paired F l m → a ∈ l → ∃ b ∈ m, F a b
  | _, _, _, .nil, h => nomatch h
  | _, _, a, .cons r q, h => by
    rcases List.mem_cons.mp h with rfl | h
    · exact ⟨_, List.mem_cons_self, r⟩
    · obtain ⟨b, m, f⟩ := paired_mem q h
      exact ⟨b, List.mem_cons_of_mem _ m, f⟩
theorem paired_gx {K : PySem.W.Frag} {CG : Addr} {S : List Addr} {H H' : Hp} (x : Gx S H H') : ∀ {as : List (Addr × Addr)} {gs : List Grp}, Paired (fun (a : Addr × Addr) (g : Grp) => GrpAt K CG H a.1 a.2 g.1 g.2) as gs →
    (∀ a ∈ as, a.1 ∉ S ∧ a.2 ∉ S) → Paired (fun (a : Addr × Addr) (g : Grp) => GrpAt K CG H' a.1 a.2 g.1 g.2) as gs
  | _, _, .nil, _ => .nil
  | _, _, .cons r q, h => .cons (r.gx x (h _ List.mem_cons_self).1 (h _ List.mem_cons_self).2) (paired_gx x q fun a m => h a (List.mem_cons_of_mem _ m))
section
variable {K : PySem.W.Frag} {CG CR : Addr} {H0 H H' : Hp} {r : Addr} {t : List Nat} {s : RS} {dx gl : Addr} {as : List (Addr × Addr)}
theorem RdX.ne_r (R : RdX K CG CR H0 H r t s dx gl as) : r ≠ gl ∧ ∀ a ∈ as, r ≠ a.1 ∧ r ≠ a.2 ∧ gl ≠ a.1 ∧ gl ≠ a.2 := by
  refine ⟨ne_of R.ob R.gs (fun e => nomatch e), fun a ha => ?_⟩
  obtain ⟨g, _, ⟨dy, h1⟩, xs, h2, _⟩ := paired_mem R.al ha
  refine ⟨ne_of R.ob h1 ins_ne, ne_of R.ob h2 (fun e => nomatch e), ne_of R.gs h1 (fun e => nomatch e), fun e => ?_⟩
  have := (List.nodup_cons.mp R.n2).1
  exact this (by rw [e]; exact List.mem_map.mpr ⟨a, ha, rfl⟩)
/-- place and wants are set -/
theorem RdX.setR (R : RdX K CG CR H0 H r t s dx gl as) (p : Nat) (w : Bool) : RdX K CG CR H0 (upd H r (.ins CR dx (rf t p gl w))) r t ⟨p, s.gs, w⟩ dx gl as := by
  obtain ⟨e1, e2⟩ := R.ne_r
  have g : Gx [r] H (upd H r (.ins CR dx (rf t p gl w))) := Gx.set R.ob rfl
  exact ⟨R.gr.drop g (fun a m => by rw [List.mem_singleton.mp m]; exact .inr R.r0), upd_same, by rw [upd_ne e1.symm]; exact R.gs,
    paired_gx g R.al fun a ha => ⟨by simp [(e2 a ha).1.symm], by simp [(e2 a ha).2.1.symm]⟩, R.n1, R.n2, R.r0, R.g0, R.a0⟩
/-- the heap grows -/
theorem RdX.grow (R : RdX K CG CR H0 H r t s dx gl as) (g : Gr H H') : RdX K CG CR H0 H' r t s dx gl as :=
  ⟨R.gr.trans g, gr_some g R.ob (fun ps e => nomatch e), g.lst R.gs (fun m => nomatch m), paired_gx g R.al (fun a _ => ⟨(fun m => nomatch m), (fun m => nomatch m)⟩), R.n1, R.n2, R.r0, R.g0, R.a0⟩
/-- the group on top is another one -/
theorem RdX.setTop {a : Addr × Addr} {g g' : Grp} {gs : List Grp} {p : Nat} {w : Bool} (R : RdX K CG CR H0 H r t ⟨p, g :: gs, w⟩ dx gl (a :: as)) (x : Gx [a.1, a.2] H H') (G : GrpAt K CG H' a.1 a.2 g'.1 g'.2) :
    RdX K CG CR H0 H' r t ⟨p, g' :: gs, w⟩ dx gl (a :: as) := by
  obtain ⟨e1, e2⟩ := R.ne_r
  obtain ⟨f1, f2, f3, f4⟩ := e2 a List.mem_cons_self
  have n1 := List.nodup_cons.mp (show (a.1 :: as.map (·.1)).Nodup from R.n1)
  have n2 := List.nodup_cons.mp (List.nodup_cons.mp (show (gl :: a.2 :: as.map (·.2)).Nodup from R.n2)).2
  have hal := R.al
  cases hal with
  | cons q0 q1 =>
    refine ⟨R.gr.drop x (fun b m => ?_), x.keep _ _ (by simp [f1, f2]) R.ob (fun ps e => nomatch e), x.lst R.gs (by simp [f3, f4]), .cons G (paired_gx x q1 fun b hb => ?_), R.n1, R.n2, R.r0, R.g0, R.a0⟩
    · rcases List.mem_cons.mp m with rfl | m
      · exact .inr (R.a0 a List.mem_cons_self).1
      · rw [List.mem_singleton.mp m]; exact .inr (R.a0 a List.mem_cons_self).2
    · obtain ⟨g1, _, ⟨dy, h1⟩, ys, h2, _⟩ := paired_mem q1 hb
      obtain ⟨⟨dz, h3⟩, zs, h4, _⟩ := q0
      have b1 : b.1 ≠ a.1 := fun e => n1.1 (by rw [← e]; exact List.mem_map.mpr ⟨b, hb, rfl⟩)
      have b2 : b.2 ≠ a.2 := fun e => n2.1 (by rw [← e]; exact List.mem_map.mpr ⟨b, hb, rfl⟩)
      have b3 : b.1 ≠ a.2 := ne_of h1 h4 (fun e => nomatch e)
      have b4 : b.2 ≠ a.1 := ne_of h2 h3 (fun e => nomatch e)
      exact ⟨by simp [b1, b3], by simp [b2, b4]⟩
/-- a new group on top -/
theorem RdX.push {g l : Addr} (R : RdX K CG CR H0 H r t s dx gl as) (G : GrpAt K CG H g l [] 0) (x0 : H0 g = none) (x1 : H0 l = none) (x2 : ∀ a ∈ as, g ≠ a.1 ∧ l ≠ a.2) (x3 : gl ≠ l) :
    RdX K CG CR H0 (upd H gl (.lst ((as.map fun x => V.ref x.1).reverse ++ [.ref g]))) r t ⟨s.p, ([], 0) :: s.gs, s.wants⟩ dx gl ((g, l) :: as) := by
  obtain ⟨e1, e2⟩ := R.ne_r
  have x : Gx [gl] H (upd H gl (.lst ((as.map fun x => V.ref x.1).reverse ++ [.ref g]))) := Gx.set R.gs rfl
  obtain ⟨⟨dy, h1⟩, ys, h2, _⟩ := id G
  have ggl : g ≠ gl := ne_of h1 R.gs (fun e => nomatch e)
  refine ⟨R.gr.drop x (fun a m => by rw [List.mem_singleton.mp m]; exact .inr R.g0), by rw [upd_ne e1]; exact R.ob, ?_, .cons (G.gx x (by simp [ggl]) (by simp [x3.symm])) (paired_gx x R.al fun a ha => ⟨by simp [(e2 a ha).2.2.1.symm], by simp [(e2 a ha).2.2.2.symm]⟩), ?_, ?_, R.r0, R.g0, ?_⟩
  · rw [upd_same, List.map_cons, List.reverse_cons]
  · refine List.nodup_cons.mpr ⟨fun m => ?_, R.n1⟩
    obtain ⟨a, ha, e⟩ := List.mem_map.mp m
    exact (x2 a ha).1 e.symm
  · have n := List.nodup_cons.mp R.n2
    refine List.nodup_cons.mpr ⟨fun m => ?_, List.nodup_cons.mpr ⟨fun m => ?_, n.2⟩⟩
    · rcases List.mem_cons.mp m with e | m
      · exact x3 e
      · exact n.1 m
    · obtain ⟨a, ha, e⟩ := List.mem_map.mp m
      exact (x2 a ha).2 e.symm
  · intro a ha
    rcases List.mem_cons.mp ha with rfl | ha
    · exact ⟨x0, x1⟩
    · exact R.a0 a ha
/-- the top is taken -/
theorem RdX.pop {a : Addr × Addr} {g : Grp} {gs : List Grp} {p : Nat} {w : Bool} (R : RdX K CG CR H0 H r t ⟨p, g :: gs, w⟩ dx gl (a :: as)) :
    RdX K CG CR H0 (upd H gl (.lst (((a :: as).map fun x => V.ref x.1).reverse).dropLast)) r t ⟨p, gs, w⟩ dx gl as ∧ GrpAt K CG (upd H gl (.lst (((a :: as).map fun x => V.ref x.1).reverse).dropLast)) a.1 a.2 g.1 g.2 := by
  obtain ⟨e1, e2⟩ := R.ne_r
  have x : Gx [gl] H (upd H gl (.lst (((a :: as).map fun x => V.ref x.1).reverse).dropLast)) := Gx.set R.gs rfl
  have hal := R.al
  cases hal with
  | cons q0 q1 =>
    obtain ⟨f1, f2, f3, f4⟩ := e2 a List.mem_cons_self
    have n := List.nodup_cons.mp (show (gl :: a.2 :: as.map (·.2)).Nodup from R.n2)
    refine ⟨⟨R.gr.drop x (fun a m => by rw [List.mem_singleton.mp m]; exact .inr R.g0), by rw [upd_ne e1]; exact R.ob, ?_, paired_gx x q1 fun b hb => ?_, (List.nodup_cons.mp (show (a.1 :: as.map (·.1)).Nodup from R.n1)).2,
      List.nodup_cons.mpr ⟨fun m => n.1 (List.mem_cons_of_mem _ m), (List.nodup_cons.mp n.2).2⟩, R.r0, R.g0, fun b hb => R.a0 b (List.mem_cons_of_mem _ hb)⟩, q0.gx x (by simp [f3.symm]) (by simp [f4.symm])⟩
    · rw [upd_same, List.map_cons, List.reverse_cons, List.dropLast_concat]
    · have := e2 b (List.mem_cons_of_mem _ hb)
      exact ⟨by simp [this.2.2.1.symm], by simp [this.2.2.2.symm]⟩
end
theorem negs_succ : ∀ (n : Nat) (f : Fm), negs (n + 1) f = .ng (negs n f)
  | 0, _ => rfl
  | n + 1, f => negs_succ n (.ng f)
/-- a new object and its own dict -/
theorem gr_made {H : Hp} {x dx C : Addr} (nx : H x = none) (nd : H dx = none) (ne : dx ≠ x) : Gr H (upd (upd H dx (.own x)) x (.ins C dx [])) :=
  (Gx.new nd).trans (Gx.new (by rw [upd_ne ne.symm]; exact nx))
section
variable {K : PySem.W.Frag} {CG CR : Addr} {H0 H H' : Hp} {r : Addr} {t : List Nat} {s : RS} {dx gl : Addr} {as : List (Addr × Addr)}
theorem RdX.inc (R : RdX K CG CR H0 H r t s dx gl as) (k : Nat) {z : Int} (hz : z = ((s.p + k : Nat) : Int)) : RdX K CG CR H0 (upd H r (.ins CR dx (putF "place" (.int z) (rf t s.p gl s.wants)))) r t ⟨s.p + k, s.gs, s.wants⟩ dx gl as := by
  subst hz; rw [rf_pp]; exact R.setR _ _
theorem RdX.setW (R : RdX K CG CR H0 H r t s dx gl as) (w : Bool) : RdX K CG CR H0 (upd H r (.ins CR dx (putF "wants" (.bl w) (rf t s.p gl s.wants)))) r t ⟨s.p, s.gs, w⟩ dx gl as := by
  rw [rf_pw]; exact R.setR _ _
end
theorem top_at {a : Addr × Addr} {as : List (Addr × Addr)} : atI ((a :: as).map fun x => V.ref x.1).reverse (-1) = some (.ref a.1) := by
  rw [List.map_cons, List.reverse_cons]; exact atI_last _ _
theorem bot_at {a : Addr × Addr} : atI ([a].map fun x => V.ref x.1).reverse 0 = some (.ref a.1) := rfl
/-! ### signs -/
theorem one_eq (c k : Nat) : decide (V.str ⟨#[c]⟩ = V.str (SX.S [k])) = decide (c = k) := by
  by_cases e : c = k
  · subst e; rw [decide_eq_true rfl, decide_eq_true rfl]
  · rw [decide_eq_false e, decide_eq_false]
    intro h
    injection h with h
    have : [c] = [k] := SX.S_inj (a := [c]) (b := [k]) h
    exact e (List.cons.inj this).1
theorem z_sp : (" " : Str) = SX.S [32] := by decide +kernel
theorem z_mi : ("-" : Str) = SX.S [45] := by decide +kernel
theorem z_gt : (">" : Str) = SX.S [62] := by decide +kernel
theorem z_tl : ("~" : Str) = SX.S [126] := by decide +kernel
theorem z_pl : ("(" : Str) = SX.S [40] := by decide +kernel
theorem z_pr : (")" : Str) = SX.S [41] := by decide +kernel
theorem in_small (c : Nat) : decide (c ∈ ("abcdefghijklmnopqrstuvwxyz" : Str).cps.toList) = small c := by
  have h1 : ∀ j ∈ List.range 26, 97 + j ∈ ("abcdefghijklmnopqrstuvwxyz" : Str).cps.toList := by decide +kernel
  have h2 : ∀ c ∈ ("abcdefghijklmnopqrstuvwxyz" : Str).cps.toList, small c = true := by decide +kernel
  rw [Bool.eq_iff_iff, decide_eq_true_eq]
  refine ⟨h2 c, fun h => ?_⟩
  unfold small at h
  rw [Bool.and_eq_true, decide_eq_true_eq, decide_eq_true_eq] at h
  have := h1 (c - 97) (List.mem_range.mpr (by omega))
  rwa [show 97 + (c - 97) = c by omega] at this
theorem in_digit (c : Nat) : decide (c ∈ ("0123456789" : Str).cps.toList) = digit c := by
  have h1 : ∀ j ∈ List.range 10, 48 + j ∈ ("0123456789" : Str).cps.toList := by decide +kernel
  have h2 : ∀ c ∈ ("0123456789" : Str).cps.toList, digit c = true := by decide +kernel
  rw [Bool.eq_iff_iff, decide_eq_true_eq]
  refine ⟨h2 c, fun h => ?_⟩
  unfold digit at h
  rw [Bool.and_eq_true, decide_eq_true_eq, decide_eq_true_eq] at h
  have := h1 (c - 48) (List.mem_range.mpr (by omega))
  rwa [show 48 + (c - 48) = c by omega] at this
theorem cut_one (t : List Nat) (p : Nat) : cutS (SX.S t) (some ((p : Int) + 1)) (some ((p : Int) + 2)) = SX.S (match t[p + 1]? with | some d => [d] | none => []) := by
  have e1 : ((p : Int) + 1) = ((p + 1 : Nat) : Int) := rfl
  have e2 : ((p : Int) + 2) = ((p + 2 : Nat) : Int) := rfl
  unfold cutS
  rw [e1, e2, HT.sIx_nat, HT.sIx_nat, SX.S_len]
  show SX.S _ = SX.S _
  refine congrArg SX.S ?_
  cases h : t[p + 1]? with
  | none =>
    have hl : t.length ≤ p + 1 := List.getElem?_eq_none_iff.mp h
    show List.take _ (t.drop (min (p + 1) t.length)) = []
    rw [List.drop_eq_nil_of_le (by omega)]; simp
  | some d =>
    obtain ⟨hl, e⟩ := List.getElem?_eq_some_iff.mp h
    show List.take _ (t.drop (min (p + 1) t.length)) = [d]
    rw [show min (p + 1) t.length = p + 1 by omega, show min (p + 2) t.length - (p + 1) = 1 by omega, List.drop_eq_getElem_cons hl, e]; rfl
/-- the bounds and the shape of what is read -/
structure Bd (s : RS) : Prop where
  n : ∀ g ∈ s.gs, g.1.length ≤ s.p ∧ g.2 ≤ s.p
  m : s.gs.length ≤ s.p + 1
  w : s.wants = false → ∃ g gs, s.gs = g :: gs ∧ g.1 ≠ []
  ne : s.gs ≠ []
theorem Bd.add {f : Fm} {g : Grp} {gs : List Grp} {p q : Nat} (h : ∀ x ∈ g :: gs, x.1.length ≤ p ∧ x.2 ≤ p) (hm : (g :: gs).length ≤ p + 1) (l : p < q) (w : Bool) : Bd ⟨q, addG f (g :: gs), w⟩ := by
  obtain ⟨ps, n⟩ := g
  refine ⟨fun x hx => ?_, ?_, fun _ => ⟨_, _, rfl, by simp⟩, List.cons_ne_nil _ _⟩
  · rcases List.mem_cons.mp hx with rfl | hx
    · have := (h _ List.mem_cons_self).1
      show (ps ++ [negs n f]).length ≤ q ∧ 0 ≤ q
      rw [List.length_append, List.length_singleton]
      have h2 : ps.length ≤ p := this
      omega
    · have := h x (List.mem_cons_of_mem _ hx)
      show x.1.length ≤ q ∧ x.2 ≤ q
      omega
  · show (gs.length + 1) ≤ q + 1
    have : gs.length + 1 ≤ p + 1 := hm
    omega
theorem nameAt_pos (t : List Nat) (p c : Nat) : 1 ≤ (nameAt t p c).length ∧ (nameAt t p c).length ≤ 2 := by
  unfold nameAt
  split
  · split <;> simp
  · simp
theorem bd_step {t : List Nat} {s s' : RS} (B : Bd s) (h : stepS t s = some s') : Bd s' ∧ s.p < s'.p := by
  unfold stepS at h
  split at h
  · cases h
  · rename_i c hc
    split at h
    · cases h
      exact ⟨⟨fun g hg => by have := B.n g hg; exact ⟨Nat.le_succ_of_le this.1, Nat.le_succ_of_le this.2⟩, Nat.le_succ_of_le B.m, B.w, B.ne⟩, Nat.lt_succ_self _⟩
    · split at h
      · rename_i hw
        unfold startS at h
        split at h
        · split at h
          · rename_i ps n r hg
            cases h
            refine ⟨⟨fun g hg2 => ?_, ?_, fun z => (by rw [hw] at z; cases z), List.cons_ne_nil _ _⟩, Nat.lt_succ_self _⟩
            · rcases List.mem_cons.mp hg2 with rfl | hg2
              · have := B.n (ps, n) (by rw [hg]; exact List.mem_cons_self)
                exact ⟨Nat.le_succ_of_le this.1, Nat.succ_le_succ this.2⟩
              · have := B.n g (by rw [hg]; exact List.mem_cons_of_mem _ hg2)
                exact ⟨Nat.le_succ_of_le this.1, Nat.le_succ_of_le this.2⟩
            · have := B.m
              rw [hg] at this
              exact Nat.le_succ_of_le this
          · cases h
        · split at h
          · cases h
            refine ⟨⟨fun g hg2 => ?_, Nat.succ_le_succ B.m, fun z => (by rw [hw] at z; cases z), List.cons_ne_nil _ _⟩, Nat.lt_succ_self _⟩
            rcases List.mem_cons.mp hg2 with rfl | hg2
            · exact ⟨Nat.zero_le _, Nat.zero_le _⟩
            · have := B.n g hg2
              exact ⟨Nat.le_succ_of_le this.1, Nat.le_succ_of_le this.2⟩
          · split at h
            · cases h
              have hp := nameAt_pos t s.p c
              have lt : s.p < s.p + (nameAt t s.p c).length := by omega
              cases hg : s.gs with
              | nil =>
                exact absurd hg B.ne
              | cons g gs =>
                have b := B.n; have m := B.m
                rw [hg] at b m
                exact ⟨Bd.add b m lt _, lt⟩
            · cases h
      · rename_i hw
        unfold goS at h
        split at h
        · split at h
          · cases h
            exact ⟨⟨fun g hg => by have := B.n g hg; exact ⟨by show g.1.length ≤ s.p + 2; omega, by show g.2 ≤ s.p + 2; omega⟩, by show s.gs.length ≤ s.p + 2 + 1; have := B.m; omega, fun z => (by cases z), B.ne⟩, by show s.p < s.p + 2; omega⟩
          · cases h
        · split at h
          · split at h
            · rename_i g g2 r hg
              cases h
              have b := B.n; have m := B.m
              rw [hg] at b m
              exact ⟨Bd.add (fun x hx => b x (List.mem_cons_of_mem _ hx)) (by have : (g2 :: r).length + 1 ≤ s.p + 1 := m; omega) (Nat.lt_succ_self _) _, Nat.lt_succ_self _⟩
            · cases h
          · cases h
end Cs

namespace Cs
open PySem PySem.Spec PyProof.Rows L2
/-! ### looser texts: plain law -/
abbrev bl (n : Nat) : List Nat := List.replicate n 32
/-- a text that is one part: read behind k negations it is one more part of the group -/
def GT (f : Fm) (T : List Nat) : Prop := ∀ (pre rest : List Nat), Nxt rest → ∀ (ps : List Fm) (k : Nat) (gs : List Grp),
  Run (pre ++ (T ++ rest)) ⟨pre.length, (ps, k) :: gs, true⟩ ⟨pre.length + T.length, (ps ++ [negs k f], 0) :: gs, false⟩
/-- a text of a formula -/
def TT (f : Fm) (T : List Nat) : Prop := ∃ L : List Fm, L ≠ [] ∧ grpF L = f ∧ ∀ (pre rest : List Nat), Nxt rest → ∀ (ps : List Fm) (gs : List Grp),
  Run (pre ++ (T ++ rest)) ⟨pre.length, (ps, 0) :: gs, true⟩ ⟨pre.length + T.length, (ps ++ L, 0) :: gs, false⟩
theorem GT.tt {f : Fm} {T : List Nat} (h : GT f T) : TT f T := ⟨[f], List.cons_ne_nil _ _, rfl, fun pre rest hr ps gs => h pre rest hr ps 0 gs⟩
theorem run_bl (n : Nat) : ∀ (pre rest : List Nat) (gs : List Grp) (w : Bool), Run (pre ++ (bl n ++ rest)) ⟨pre.length, gs, w⟩ ⟨pre.length + n, gs, w⟩ := by
  induction n with
  | zero => intro pre rest gs w; exact .refl _
  | succ n ih =>
    intro pre rest gs w
    have e : pre ++ (bl (n + 1) ++ rest) = pre ++ 32 :: (bl n ++ rest) := by rw [show bl (n + 1) = 32 :: bl n from List.replicate_succ]; rfl
    rw [e]
    refine .more step_sp ?_
    have := ih (pre ++ [32]) rest gs w
    rw [len1] at this
    rw [mv1, show pre.length + (n + 1) = pre.length + 1 + n by omega]
    exact this
theorem nxt_bl {n : Nat} {r : List Nat} (h : Nxt r) : Nxt (bl n ++ r) := by
  cases n with
  | zero => exact h
  | succ n => rw [show bl (n + 1) = 32 :: bl n from List.replicate_succ]; exact nxt_sp rfl
theorem bl_len (n : Nat) : (bl n).length = n := List.length_replicate
theorem gt_lt {n : Str} (h : Nm n) : GT (.lt n) n.cps.toList := fun pre rest hr ps k gs => run_letter h hr ps k gs
/-- in parentheses -/
theorem gt_par {f : Fm} {T : List Nat} (h : TT f T) (n m : Nat) : GT f (40 :: (bl n ++ (T ++ (bl m ++ [41])))) := by
  obtain ⟨L, hL, hf, h⟩ := h
  intro pre rest hr ps k gs
  have e : pre ++ (40 :: (bl n ++ (T ++ (bl m ++ [41]))) ++ rest) = (pre ++ [40]) ++ (bl n ++ (T ++ (bl m ++ 41 :: rest))) := by
    simp only [List.append_assoc, List.cons_append, List.nil_append]
  rw [e]
  refine .more (s1 := ⟨(pre ++ [40]).length, ([], 0) :: (ps, k) :: gs, true⟩) (by rw [← mv1, len1]; exact step_lp) ?_
  refine (run_bl n (pre ++ [40]) _ _ _).trans ?_
  have e2 : (pre ++ [40]) ++ (bl n ++ (T ++ (bl m ++ 41 :: rest))) = ((pre ++ [40]) ++ bl n) ++ (T ++ (bl m ++ 41 :: rest)) := by simp only [List.append_assoc]
  have l2 : (pre ++ [40]).length + n = ((pre ++ [40]) ++ bl n).length := by rw [List.length_append (as := pre ++ [40]), bl_len]
  rw [e2, l2]
  refine (h _ _ (nxt_bl (nxt_sp rfl)) [] _).trans ?_
  have e3 : ((pre ++ [40]) ++ bl n) ++ (T ++ (bl m ++ 41 :: rest)) = (((pre ++ [40]) ++ bl n) ++ T) ++ (bl m ++ 41 :: rest) := by simp only [List.append_assoc]
  have l3 : ((pre ++ [40]) ++ bl n).length + T.length = (((pre ++ [40]) ++ bl n) ++ T).length := by rw [List.length_append (as := (pre ++ [40]) ++ bl n)]
  rw [e3, l3]
  refine (run_bl m _ _ _ _).trans ?_
  have e4 : (((pre ++ [40]) ++ bl n) ++ T) ++ (bl m ++ 41 :: rest) = ((((pre ++ [40]) ++ bl n) ++ T) ++ bl m) ++ 41 :: rest := by simp only [List.append_assoc]
  have l4 : (((pre ++ [40]) ++ bl n) ++ T).length + m = ((((pre ++ [40]) ++ bl n) ++ T) ++ bl m).length := by rw [List.length_append (as := ((pre ++ [40]) ++ bl n) ++ T), bl_len]
  rw [e4, l4]
  refine .more step_rp ?_
  have l5 : ((((pre ++ [40]) ++ bl n) ++ T) ++ bl m).length + 1 = pre.length + (40 :: (bl n ++ (T ++ (bl m ++ [41])))).length := by
    simp only [List.length_append, List.length_cons, List.length_nil]; omega
  rw [l5]
  show Run _ ⟨_, addG (grpF ([] ++ L)) ((ps, k) :: gs), false⟩ _
  rw [List.nil_append, hf]
  exact .refl _
theorem gt_ng {p : Fm} {T : List Nat} (h : GT p T) (n : Nat) : GT (.ng p) (126 :: (bl n ++ T)) := by
  intro pre rest hr ps k gs
  have e : pre ++ (126 :: (bl n ++ T) ++ rest) = (pre ++ [126]) ++ (bl n ++ (T ++ rest)) := by simp only [List.append_assoc, List.cons_append, List.nil_append]
  rw [e]
  refine .more (s1 := ⟨(pre ++ [126]).length, (ps, k + 1) :: gs, true⟩) (by rw [← mv1, len1]; exact step_ng) ?_
  refine (run_bl n (pre ++ [126]) _ _ _).trans ?_
  have e2 : (pre ++ [126]) ++ (bl n ++ (T ++ rest)) = ((pre ++ [126]) ++ bl n) ++ (T ++ rest) := by simp only [List.append_assoc]
  have l2 : (pre ++ [126]).length + n = ((pre ++ [126]) ++ bl n).length := by rw [List.length_append (as := pre ++ [126]), bl_len]
  rw [e2, l2]
  have := h ((pre ++ [126]) ++ bl n) rest hr ps (k + 1) gs
  have l3 : ((pre ++ [126]) ++ bl n).length + T.length = pre.length + (126 :: (bl n ++ T)).length := by simp only [List.length_append, List.length_cons, List.length_nil]; omega
  rw [l3] at this
  exact this
theorem tt_im {p q : Fm} {T U : List Nat} (h : GT p T) (h2 : TT q U) (n m : Nat) : TT (.im p q) (T ++ (bl n ++ (45 :: 62 :: (bl m ++ U)))) := by
  obtain ⟨L, hL, hq, h2⟩ := h2
  refine ⟨p :: L, List.cons_ne_nil _ _, ?_, fun pre rest hr ps gs => ?_⟩
  · rw [← hq]
    cases L with
    | nil => exact absurd rfl hL
    | cons x r => rfl
  have e : pre ++ (T ++ (bl n ++ (45 :: 62 :: (bl m ++ U))) ++ rest) = pre ++ (T ++ (bl n ++ (45 :: 62 :: (bl m ++ (U ++ rest))))) := by simp only [List.append_assoc, List.cons_append]
  rw [e]
  refine (h pre _ (nxt_bl (nxt_sp rfl)) ps 0 gs).trans ?_
  have e2 : pre ++ (T ++ (bl n ++ (45 :: 62 :: (bl m ++ (U ++ rest))))) = (pre ++ T) ++ (bl n ++ (45 :: 62 :: (bl m ++ (U ++ rest)))) := by simp only [List.append_assoc]
  rw [e2, show pre.length + T.length = (pre ++ T).length by rw [List.length_append]]
  refine (run_bl n _ _ _ _).trans ?_
  have e3 : (pre ++ T) ++ (bl n ++ (45 :: 62 :: (bl m ++ (U ++ rest)))) = ((pre ++ T) ++ bl n) ++ 45 :: 62 :: (bl m ++ (U ++ rest)) := by simp only [List.append_assoc]
  have l3 : (pre ++ T).length + n = ((pre ++ T) ++ bl n).length := by rw [List.length_append (as := pre ++ T), bl_len]
  rw [e3, l3]
  refine .more step_ar ?_
  have e4 : ((pre ++ T) ++ bl n) ++ 45 :: 62 :: (bl m ++ (U ++ rest)) = (((pre ++ T) ++ bl n) ++ [45, 62]) ++ (bl m ++ (U ++ rest)) := by simp only [List.append_assoc]; rfl
  have l4 : ((pre ++ T) ++ bl n).length + 2 = (((pre ++ T) ++ bl n) ++ [45, 62]).length := by rw [List.length_append (as := (pre ++ T) ++ bl n)]; rfl
  rw [e4, l4]
  refine (run_bl m _ _ _ _).trans ?_
  have e5 : (((pre ++ T) ++ bl n) ++ [45, 62]) ++ (bl m ++ (U ++ rest)) = ((((pre ++ T) ++ bl n) ++ [45, 62]) ++ bl m) ++ (U ++ rest) := by simp only [List.append_assoc]
  have l5 : (((pre ++ T) ++ bl n) ++ [45, 62]).length + m = ((((pre ++ T) ++ bl n) ++ [45, 62]) ++ bl m).length := by rw [List.length_append (as := ((pre ++ T) ++ bl n) ++ [45, 62]), bl_len]
  rw [e5, l5]
  have := h2 ((((pre ++ T) ++ bl n) ++ [45, 62]) ++ bl m) rest hr (ps ++ [p]) gs
  have l6 : ((((pre ++ T) ++ bl n) ++ [45, 62]) ++ bl m).length + U.length = pre.length + (T ++ (bl n ++ (45 :: 62 :: (bl m ++ U)))).length := by simp only [List.length_append, List.length_cons, List.length_nil]; omega
  rw [l6, List.append_assoc ps] at this
  exact this
/-- the whole text -/
theorem read_tt {f : Fm} {T : List Nat} (h : TT f T) (n m : Nat) : ∃ g : Grp, grpF g.1 = f ∧ Run (bl n ++ (T ++ bl m)) ⟨0, [([], 0)], true⟩ ⟨(bl n ++ (T ++ bl m)).length, [g], false⟩ := by
  obtain ⟨L, hL, hf, h⟩ := h
  refine ⟨(L, 0), hf, ?_⟩
  have a := run_bl n [] (T ++ bl m) [([], 0)] true
  rw [List.nil_append] at a
  refine a.trans ?_
  have b := h (bl n) (bl m) (by have := nxt_bl (n := m) Nxt.nil; rwa [List.append_nil] at this) [] []
  rw [bl_len] at b
  rw [show ([] : List Nat).length + n = n by simp]
  refine b.trans ?_
  have c := run_bl m (bl n ++ T) [] [([] ++ L, 0)] false
  rw [List.append_nil, List.append_assoc, List.length_append, bl_len] at c
  rw [show (bl n ++ (T ++ bl m)).length = n + T.length + m by simp only [List.length_append, bl_len]; omega]
  exact c
end Cs

namespace Cs
open PySem PySem.Spec PyProof.Rows L2
/-! ### texts: z * n, z[::-1], z[c:c + 1] -/
theorem op_mulS {X : Cx} : OpR X (binaryOp .Mult) (fun x y H Q => ∃ (z : Str) (n : Int), x = .str z ∧ y = .int n ∧ MulOk z n ∧ Q (.str (Txt.mul z n)) H) := by
  intro pins s σ H x y v u Q I rx ry h
  obtain ⟨z, n, rfl, rfl, hok, q⟩ := h
  obtain ⟨t, rfl⟩ := rx
  obtain ⟨t', rfl⟩ := ry
  exact SB.mul hok fun t2 k => ⟨.str (Txt.mul z n), H, I.tok _, ⟨_, rfl⟩, q⟩
def tRevS (te : TE) : TE := fun σ H Q => te σ H fun x H1 => ∃ t, x = .str (SX.S t) ∧ t.length ≤ sizeLine ∧ Q (.str (SX.S t.reverse)) H1
theorem rev_picked (t : List Nat) : (Builtin.Str.strSliceIndices none none (-1) (SX.S t).length).filterMap ((SX.S t).cps[·]?) = t.reverse := by
  rw [PyProof.Rows.picked_rev, PySem.W.krv_range, List.filterMap_reverse]
  exact congrArg List.reverse (PySem.W.krv_all t.toArray)
theorem pe_revS {X : Cx} {e : Expr} {te : TE} {k : Nat} {p1 p2 p3 pos : Pos} (he : PE X e te) : PE X (.Subscript e (.Slice none none (some (.UnaryOp .USub (.Constant (.int 1) k p1) p2)) p3) pos) (tRevS te) := by
  refine ⟨fun pins s σ H Q I h => ?_⟩
  refine Subscript_ (thn (he.run pins s σ H _ I h) fun v s1 ⟨x, H1, I1, r1, q1⟩ => ?_)
  obtain ⟨t, ex, hz, q⟩ := q1
  subst ex
  obtain ⟨tk, rfl⟩ := r1
  have hst : PO X (some (.UnaryOp .USub (.Constant (.int 1) k p1) p2)) (tPart (tUn (rU fun i => .int (-i)) (tC (.int 1)))) := po_some (pe_un un_neg pe_int)
  refine wpAny_Slice (thn (po_none.run pins s1 σ H1 (fun o H2 => o = none ∧ H2 = H1) I1 ⟨rfl, rfl⟩) fun vl s2 ⟨l, H2, I2, pl, el, e2⟩ => ?_)
  subst el e2
  refine thn (po_none.run pins s2 σ H2 (fun o H3 => o = none ∧ H3 = H2) I2 ⟨rfl, rfl⟩) fun vu s3 ⟨u, H3, I3, pu, eu, e3⟩ => ?_
  subst eu e3
  refine thn (hst.run pins s3 σ H3 (fun o H4 => o = some (-1) ∧ H4 = H3) I3 ⟨1, rfl, -1, rfl, rfl, rfl⟩) fun vs s4 ⟨o, H4, I4, ps, eo, e4⟩ => ?_
  subst eo e4
  obtain ⟨l, rfl, hl⟩ := IsPart.raw pl
  obtain ⟨u, rfl, hu⟩ := IsPart.raw pu
  obtain ⟨st, rfl, hst⟩ := IsPart.raw ps
  cases l with
  | some _ => cases hl
  | none =>
  cases u with
  | some _ => cases hu
  | none =>
  cases st with
  | none => cases hst
  | some st =>
  obtain ⟨i, tu⟩ := st
  have hi : i = -1 := Option.some.inj hst
  subst hi
  have I5 : Inv X pins σ H4 { s4 with heap := s4.heap.push { cls := .type "slice", data := .fields #[partValue none, partValue none, partValue (some (-1, tu))] } } := I4.kept (t' := s4.toks) fun b ob q => Heap.get?_push_of_some _ q
  show wpAny (model X.prog X.w) X.A (subscriptTail e (.Slice none none (some (.UnaryOp .USub (.Constant (.int 1) k p1) p2)) p3) (.str (SX.S t) tk) (.ref s4.heap.objs.size)) (EP X pins σ Q) X.xe { s4 with heap := s4.heap.push { cls := .type "slice", data := .fields #[partValue none, partValue none, partValue (some (-1, tu))] } }
  refine tail_any (ops := [.str (SX.S t) tk, .ref s4.heap.objs.size]) (typeIs_str _ _ _) (F.slot_str_getitem.lookup) ?_ (by with_unfolding_all rfl)
  refine wpAny_getItem_str_slice (l := none) (u := none) (st := some (-1, tu)) ⟨_, Heap.get?_push_size _ rfl, rfl, rfl⟩ rfl ?_
  show Made.post (if ((-1 : Int) == 1 && (Builtin.Str.strSliceIndices none none (-1) (SX.S t).length).length == (SX.S t).length) = true then Made.val (.str (SX.S t) tk)
    else Made.str ⟨((Builtin.Str.strSliceIndices none none (-1) (SX.S t).length).filterMap ((SX.S t).cps[·]?)).toArray⟩) (EP X pins σ Q) _
  rw [if_neg (by simp), rev_picked]
  refine ⟨?_, .str _, H4, I5.tok _, ⟨_, rfl⟩, q⟩
  show t.reverse.toArray.size ≤ _
  rw [List.size_toArray, List.length_reverse]; exact hz
theorem cut_at (t : List Nat) (p : Nat) : cutS (SX.S t) (some (p : Int)) (some ((p : Int) + 1)) = SX.S ((t.drop p).take 1) := by
  have e2 : ((p : Int) + 1) = ((p + 1 : Nat) : Int) := rfl
  unfold cutS
  rw [e2, HT.sIx_nat, HT.sIx_nat, SX.S_len]
  refine congrArg SX.S ?_
  show List.take _ (t.drop (min p t.length)) = _
  by_cases h : p < t.length
  · rw [show min p t.length = p by omega, show min (p + 1) t.length - p = 1 by omega]
  · rw [List.drop_eq_nil_of_le (by omega), List.drop_eq_nil_of_le (by omega)]; simp

theorem ip_addS {X : Cx} : PIp X .Add (fun x y H Q => ∃ i j : Str, x = .str i ∧ y = .str j ∧ i.length + j.length ≤ sizeLine ∧ Q (.str (i ++ j)) H) := fun pins s σ H x y v u Q I rx ry h => iop_add_str pins s σ H x y v u Q I rx ry h
/-! ### drawings: plain law -/
abbrev Row := List Nat
abbrev Line := List Nat × Str
def und (a b : Nat) : List Row → List Row
  | [] => []
  | r :: rs => (a :: r) :: rs.map (b :: ·)
/-- a drawing of a formula, with longer strokes here and there -/
inductive LD : Fm → List Row → Prop
  | lt {n : Str} : LD (.lt n) [45 :: 32 :: n.cps.toList]
  | ng {p : Fm} {R : List Row} : LD p R → LD (.ng p) (und 42 32 R)
  | im {p q : Fm} {R T : List Row} : LD q R → LD p T → LD (.im p q) (und 43 124 R ++ und 96 32 T)
  | dash {f : Fm} {R : List Row} : LD f R → LD f (und 45 32 R)
def pfx (W : List Nat) (c : Nat) : Row := (List.range c).map fun j => if j ∈ W then 124 else 32
def plus (c : Nat) : List Nat → List Nat
  | [] => []
  | s :: r => if s = 43 then c :: plus (c + 1) r else plus (c + 1) r
/-- strokes of a row -/
def Sok (S : List Nat) : Prop := (∀ s ∈ S, s = 45 ∨ s = 42 ∨ s = 43) ∧ S.getLast? = some 45
/-- rows behind the first one, the waiting columns before and behind, the lines -/
inductive Rws : List Nat → List Row → List Nat → List Line → Prop
  | nil {W : List Nat} : Rws W [] W []
  | cons {W W' : List Nat} {c : Nat} {S : List Nat} {n : Str} {rs : List Row} {L : List Line} : (∀ j ∈ W, j < c) → Sok S → Nm n → Rws (W ++ plus (c + 1) S) rs W' L → Rws (W ++ [c]) ((pfx W c ++ 96 :: (S ++ 32 :: n.cps.toList)) :: rs) W' ((S, n) :: L)
/-- strokes from behind: what they make out of a formula and the lines that come next -/
inductive Pr : List Nat → Fm → List Line → Fm → List Line → Prop
  | nil {f : Fm} {L : List Line} : Pr [] f L f L
  | dash {R : List Nat} {f g : Fm} {L M : List Line} : Pr R f L g M → Pr (45 :: R) f L g M
  | star {R : List Nat} {f g : Fm} {L M : List Line} : Pr R (.ng f) L g M → Pr (42 :: R) f L g M
  | plus {R S : List Nat} {n : Str} {f g h : Fm} {L M N : List Line} : Pr S.reverse (.lt n) L h M → Pr R (.im h f) M g N → Pr (43 :: R) f ((S, n) :: L) g N
theorem Pr.app {R1 R2 : List Nat} {f f1 g : Fm} {L L1 M : List Line} (x : Pr R1 f L f1 L1) (y : Pr R2 f1 L1 g M) : Pr (R1 ++ R2) f L g M := by
  induction x with
  | nil => exact y
  | dash _ ih => exact .dash (ih y)
  | star _ ih => exact .star (ih y)
  | plus a _ _ ih => exact .plus a (ih y)
theorem Pr.len {R : List Nat} {f g : Fm} {L M : List Line} (x : Pr R f L g M) : M.length ≤ L.length := by
  induction x with
  | nil => exact Nat.le_refl _
  | dash _ ih => exact ih
  | star _ ih => exact ih
  | plus _ _ ih1 ih2 => rw [List.length_cons]; omega
theorem Rws.app {W W1 W2 : List Nat} {R1 R2 : List Row} {L1 L2 : List Line} (x : Rws W R1 W1 L1) (y : Rws W1 R2 W2 L2) : Rws W (R1 ++ R2) W2 (L1 ++ L2) := by
  induction x with
  | nil => exact y
  | cons a b c _ ih => exact .cons a b c (ih y)
theorem Rws.len {W W' : List Nat} {R : List Row} {L : List Line} (x : Rws W R W' L) : L.length = R.length := by
  induction x with
  | nil => rfl
  | cons a b c _ ih => rw [List.length_cons, List.length_cons, ih]
theorem pfx_succ (W : List Nat) (c : Nat) : pfx W (c + 1) = pfx W c ++ [if c ∈ W then 124 else 32] := by
  unfold pfx; rw [List.range_succ, List.map_append]; rfl
theorem pfx_snoc (W : List Nat) (c : Nat) : pfx (W ++ [c]) (c + 1) = pfx W c ++ [124] := by
  rw [pfx_succ, if_pos (List.mem_append_right _ (List.mem_singleton_self _))]
  refine congrArg (· ++ [124]) ?_
  unfold pfx
  refine List.map_congr_left fun j hj => ?_
  have := List.mem_range.mp hj
  have e : (j ∈ W ++ [c]) = (j ∈ W) := by
    rw [List.mem_append, List.mem_singleton, eq_iff_iff]
    exact ⟨fun h => h.elim id fun h => by omega, .inl⟩
  simp only [e]
theorem pfx_len (W : List Nat) (c : Nat) : (pfx W c).length = c := by unfold pfx; rw [List.length_map, List.length_range]
theorem plus_ge {c : Nat} : ∀ {S : List Nat} {j : Nat}, j ∈ plus c S → c ≤ j := by
  intro S
  induction S generalizing c with
  | nil => intro j h; cases h
  | cons s r ih =>
    intro j h
    unfold plus at h
    split at h
    · rcases List.mem_cons.mp h with rfl | h
      · exact Nat.le_refl _
      · exact Nat.le_of_succ_le (ih h)
    · exact Nat.le_of_succ_le (ih h)
theorem sok_cons {s : Nat} {S : List Nat} (h : s = 45 ∨ s = 42 ∨ s = 43) (x : Sok S) : Sok (s :: S) := by
  refine ⟨fun y hy => ?_, ?_⟩
  · rcases List.mem_cons.mp hy with rfl | hy
    · exact h
    · exact x.1 y hy
  · have h2 := x.2
    cases S with
    | nil => cases h2
    | cons a r => rw [List.getLast?_cons_cons]; exact h2
/-- the parts of a drawing: the first row, the others behind a place where W stands open, and what they are parsed to -/
structure Dec (f : Fm) (R : List Row) (S : List Nat) (n : Str) (Rs : List Row) (L : List Line) : Prop where
  e : R = (S ++ 32 :: n.cps.toList) :: Rs
  s : Sok S
  nn : Nm n
  r : ∀ (c : Nat) (W : List Nat), (∀ j ∈ W, j < c) → Rws (W ++ plus c S) (Rs.map (pfx W c ++ ·)) W L
  p : ∀ M : List Line, Pr S.reverse (.lt n) (L ++ M) f M
theorem map_pre (W : List Nat) (c b : Nat) (Rs : List Row) : (Rs.map (b :: ·)).map (pfx W c ++ ·) = Rs.map ((pfx W c ++ [b]) ++ ·) := by
  rw [List.map_map]
  refine List.map_congr_left fun r _ => ?_
  show pfx W c ++ (b :: r) = (pfx W c ++ [b]) ++ r
  rw [List.append_assoc]; rfl
theorem pfx_sp {W : List Nat} {c : Nat} (h : ∀ j ∈ W, j < c) : pfx W (c + 1) = pfx W c ++ [32] := by
  rw [pfx_succ, if_neg (fun m => Nat.lt_irrefl _ (h c m))]
theorem LD.dec {f : Fm} {R : List Row} (x : LD f R) (hn : Named f) : ∃ S n Rs L, Dec f R S n Rs L := by
  induction x with
  | @lt n => exact ⟨[45], n, [], [], rfl, ⟨fun s h => .inl (List.mem_singleton.mp h), rfl⟩, hn n (List.mem_singleton_self _), fun c W _ => by rw [show plus c [45] = [] from rfl, List.append_nil]; exact .nil, fun M => .dash .nil⟩
  | @ng p R x ih =>
    obtain ⟨S, n, Rs, L, D⟩ := ih hn
    refine ⟨42 :: S, n, Rs.map (32 :: ·), L, by rw [D.e]; rfl, sok_cons (.inr (.inl rfl)) D.s, D.nn, fun c W h => ?_, fun M => ?_⟩
    · rw [map_pre, ← pfx_sp h, show plus c (42 :: S) = plus (c + 1) S from rfl]
      exact D.r (c + 1) W fun j m => Nat.lt_succ_of_lt (h j m)
    · rw [List.reverse_cons]
      exact (D.p M).app (.star .nil)
  | @dash f R x ih =>
    obtain ⟨S, n, Rs, L, D⟩ := ih hn
    refine ⟨45 :: S, n, Rs.map (32 :: ·), L, by rw [D.e]; rfl, sok_cons (.inl rfl) D.s, D.nn, fun c W h => ?_, fun M => ?_⟩
    · rw [map_pre, ← pfx_sp h, show plus c (45 :: S) = plus (c + 1) S from rfl]
      exact D.r (c + 1) W fun j m => Nat.lt_succ_of_lt (h j m)
    · rw [List.reverse_cons]
      exact (D.p M).app (.dash .nil)
  | @im p q R T x y ih1 ih2 =>
    obtain ⟨S, n, Rs, L, D⟩ := ih1 hn.r
    obtain ⟨S2, n2, Rs2, L2, D2⟩ := ih2 hn.l
    refine ⟨43 :: S, n, Rs.map (124 :: ·) ++ (96 :: (S2 ++ 32 :: n2.cps.toList)) :: Rs2.map (32 :: ·), L ++ (S2, n2) :: L2, by rw [D.e, D2.e]; rfl, sok_cons (.inr (.inr rfl)) D.s, D.nn, fun c W h => ?_, fun M => ?_⟩
    · have h1 : ∀ j ∈ W ++ [c], j < c + 1 := fun j m => by
        rcases List.mem_append.mp m with m | m
        · exact Nat.lt_succ_of_lt (h j m)
        · rw [List.mem_singleton.mp m]; exact Nat.lt_succ_self _
      have a := D.r (c + 1) (W ++ [c]) h1
      have b := D2.r (c + 1) W fun j m => Nat.lt_succ_of_lt (h j m)
      rw [List.map_append, map_pre, ← pfx_snoc, List.map_cons, map_pre, ← pfx_sp h, show plus c (43 :: S) = c :: plus (c + 1) S from rfl, show W ++ c :: plus (c + 1) S = (W ++ [c]) ++ plus (c + 1) S by simp]
      exact a.app (.cons h D2.s D2.nn b)
    · rw [List.reverse_cons, List.append_assoc]
      exact (D.p ((S2, n2) :: L2 ++ M)).app (.plus (D2.p M) .nil)
end Cs
namespace Cs
open PySem PySem.Spec PyProof.Rows L2
/-! ### the reader of drawings as an object -/
def lineD (l : Line) : PyData := .tuple [.str (SX.S l.1), .str l.2]
def df (a wl ll : Addr) : List (Str × V) := [("rows", .ref a), ("waiting", .ref wl), ("lines", .ref ll)]
theorem kd1 : ¬ (("rows" : Str) = "waiting") := by decide +kernel
theorem kd2 : ¬ (("rows" : Str) = "lines") := by decide +kernel
theorem kd3 : ¬ (("waiting" : Str) = "lines") := by decide +kernel
section
variable (a wl ll : Addr)
theorem df_rows : (df a wl ll).lookup ("rows" : Str) = some (.ref a) := lk_eq
theorem df_waiting : (df a wl ll).lookup ("waiting" : Str) = some (.ref wl) := by unfold df; rw [lk_ne kd1, lk_eq]
theorem df_lines : (df a wl ll).lookup ("lines" : Str) = some (.ref ll) := by unfold df; rw [lk_ne kd2, lk_ne kd3, lk_eq]
theorem df_no {m : Str} (h1 : ¬ ("rows" : Str) = m) (h2 : ¬ ("waiting" : Str) = m) (h3 : ¬ ("lines" : Str) = m) : (df a wl ll).lookup m = none := by
  unfold df; rw [lk_ne h1, lk_ne h2, lk_ne h3]; rfl
theorem df_1 : putF "rows" (.ref a) [] = [(("rows" : Str), V.ref a)] := rfl
theorem df_2 : putF "waiting" (.ref wl) [(("rows" : Str), V.ref a)] = [(("rows" : Str), V.ref a), ("waiting", .ref wl)] := by simp only [putF, if_neg kd1]
theorem df_3 : putF "lines" (.ref ll) [(("rows" : Str), V.ref a), ("waiting", .ref wl)] = df a wl ll := by simp only [putF, if_neg kd2, if_neg kd3]; rfl
end
abbrev wts (W : List Nat) : List V := W.map fun (j : Nat) => V.int (j : Int)
structure DrX (K : PySem.W.Frag) (CR : Addr) (H0 H : Hp) (r : Addr) (rows : List Row) (W : List Nat) (L : List Line) (dx a wl ll : Addr) (ls : List V) : Prop where
  gr : Gr H0 H
  ob : H r = some (.ins CR dx (df a wl ll))
  ra : SqT K H a (rows.map fun t => V.str (SX.S t))
  wt : H wl = some (.lst (wts W))
  li : H ll = some (.lst ls)
  dl : DtAll K H ls (L.map lineD)
  ne : wl ≠ ll
  r0 : H0 r = none
  w0 : H0 wl = none
  l0 : H0 ll = none
def DrAt (K : PySem.W.Frag) (CR : Addr) (H0 H : Hp) (r : Addr) (rows : List Row) (W : List Nat) (L : List Line) : Prop := ∃ dx a wl ll ls, DrX K CR H0 H r rows W L dx a wl ll ls
section
variable {K : PySem.W.Frag} {CR : Addr} {H0 H H' : Hp} {r : Addr} {rows : List Row} {W : List Nat} {L : List Line} {dx a wl ll : Addr} {ls : List V}
theorem DrX.at (R : DrX K CR H0 H r rows W L dx a wl ll ls) : DrAt K CR H0 H r rows W L := ⟨dx, a, wl, ll, ls, R⟩
theorem DrX.grow (R : DrX K CR H0 H r rows W L dx a wl ll ls) (g : Gr H H') : DrX K CR H0 H' r rows W L dx a wl ll ls :=
  ⟨R.gr.trans g, gr_some g R.ob (fun ps e => nomatch e), g.sqT R.ra, g.lst R.wt (fun m => nomatch m), g.lst R.li (fun m => nomatch m), g.dts R.dl, R.ne, R.r0, R.w0, R.l0⟩
theorem DrX.setW (R : DrX K CR H0 H r rows W L dx a wl ll ls) (W' : List Nat) : DrX K CR H0 (upd H wl (.lst (wts W'))) r rows W' L dx a wl ll ls := by
  have g : Gx [wl] H (upd H wl (.lst (wts W'))) := Gx.set R.wt rfl
  have n1 : r ≠ wl := ne_of R.ob R.wt (fun e => nomatch e)
  exact ⟨R.gr.drop g (fun a m => by rw [List.mem_singleton.mp m]; exact .inr R.w0), by rw [upd_ne n1]; exact R.ob, g.sqT R.ra, upd_same, by rw [upd_ne R.ne.symm]; exact R.li, g.dts R.dl, R.ne, R.r0, R.w0, R.l0⟩
theorem DrX.setL (R : DrX K CR H0 H r rows W L dx a wl ll ls) {ls' : List V} {L' : List Line} (d : DtAll K H ls' (L'.map lineD)) : DrX K CR H0 (upd H ll (.lst ls')) r rows W L' dx a wl ll ls' := by
  have g : Gx [ll] H (upd H ll (.lst ls')) := Gx.set R.li rfl
  have n1 : r ≠ ll := ne_of R.ob R.li (fun e => nomatch e)
  exact ⟨R.gr.drop g (fun a m => by rw [List.mem_singleton.mp m]; exact .inr R.l0), by rw [upd_ne n1]; exact R.ob, g.sqT R.ra, by rw [upd_ne R.ne]; exact R.wt, upd_same, g.dts d, R.ne, R.r0, R.w0, R.l0⟩
end
theorem sig_lt {W : List Nat} {c j : Nat} {rest : List Nat} (h : j < c) : ((pfx W c ++ rest).drop j).take 1 = [if j ∈ W then 124 else 32] := by
  have e : (pfx W c ++ rest)[j]? = some (if j ∈ W then 124 else 32) := by
    rw [List.getElem?_append_left (by rw [pfx_len]; exact h)]
    unfold pfx
    rw [List.getElem?_map, List.getElem?_range h]; rfl
  obtain ⟨hl, e⟩ := List.getElem?_eq_some_iff.mp e
  rw [List.drop_eq_getElem_cons hl, e]; rfl
theorem sig_at {P rest : List Nat} {s : Nat} : ((P ++ s :: rest).drop P.length).take 1 = [s] := by
  rw [List.drop_left]; rfl
theorem inV_wts (W : List Nat) (j : Nat) : inV (.int (j : Int)) (wts W) = decide (j ∈ W) := by
  unfold inV wts
  rw [Bool.eq_iff_iff, List.any_eq_true, decide_eq_true_eq]
  constructor
  · rintro ⟨y, hy, e⟩
    obtain ⟨k, hk, rfl⟩ := List.mem_map.mp hy
    have : (k : Int) = (j : Int) := by simpa [eqV] using e
    have e2 : k = j := by omega
    rw [← e2]; exact hk
  · intro h
    exact ⟨_, List.mem_map.mpr ⟨j, h, rfl⟩, by simp [eqV]⟩
theorem beq_one (k c : Nat) : (SX.S [k] == (⟨#[c]⟩ : Str)) = decide (c = k) := by
  rw [Bool.eq_iff_iff, beq_iff_eq, decide_eq_true_eq]
  constructor
  · intro h
    exact (List.cons.inj (SX.S_inj (a := [k]) (b := [c]) h)).1.symm
  · rintro rfl; rfl
theorem z_st : ("*" : Str) = SX.S [42] := by decide +kernel
theorem z_pp : ("+" : Str) = SX.S [43] := by decide +kernel
theorem z_ba : ("`" : Str) = SX.S [96] := by decide +kernel
theorem z_pi : ("|" : Str) = SX.S [124] := by decide +kernel
theorem in_stk (c : Nat) : inV (.str ⟨#[c]⟩) [.str "-", .str "*", .str "+"] = decide (c = 45 ∨ c = 42 ∨ c = 43) := by
  rw [z_mi, z_st, z_pp]
  simp only [inV, List.any_cons, List.any_nil, eqV, beq_one, Bool.or_false]
  by_cases h1 : c = 45 <;> by_cases h2 : c = 42 <;> by_cases h3 : c = 43 <;> simp [h1, h2, h3]
theorem flat_wts (W : List Nat) : (wts W).all flatV = true := by
  rw [List.all_eq_true]
  intro x hx
  obtain ⟨j, _, rfl⟩ := List.mem_map.mp hx
  rfl
end Cs
namespace Cs
open PySem PySem.Spec PyProof.Rows L2
theorem plus_cons (c a : Nat) (A : List Nat) : plus c (a :: A) = if a = 43 then c :: plus (c + 1) A else plus (c + 1) A := rfl
theorem plus_app : ∀ (A B : List Nat) (c : Nat), plus c (A ++ B) = plus c A ++ plus (c + A.length) B
  | [], B, c => by simp [plus]
  | a :: A, B, c => by
    have ih := plus_app A B (c + 1)
    rw [List.cons_append, List.length_cons, show c + (A.length + 1) = c + 1 + A.length by omega, plus_cons, plus_cons, ih]
    split <;> rfl
theorem plus_len : ∀ (A : List Nat) (c : Nat), (plus c A).length ≤ A.length
  | [], c => Nat.le_refl _
  | a :: A, c => by
    have ih := plus_len A (c + 1)
    rw [plus_cons]
    split
    · rw [List.length_cons, List.length_cons]; omega
    · rw [List.length_cons]; omega
theorem sig_get {t : List Nat} {j x : Nat} (h : t[j]? = some x) : (t.drop j).take 1 = [x] := by
  obtain ⟨hl, e⟩ := List.getElem?_eq_some_iff.mp h
  rw [List.drop_eq_getElem_cons hl, e]; rfl
theorem sig_non {t : List Nat} {j : Nat} (h : t.length ≤ j) : (t.drop j).take 1 = [] := by rw [List.drop_eq_nil_of_le h]; rfl
theorem get_mid {A B C : List Nat} {k : Nat} {x : Nat} (h : B[k]? = some x) : (A ++ (B ++ C))[A.length + k]? = some x := by
  rw [List.getElem?_append_right (Nat.le_add_right _ _), Nat.add_sub_cancel_left]
  rw [List.getElem?_append_left (List.getElem?_eq_some_iff.mp h).1]; exact h
end Cs
namespace Cs
open PySem PySem.Spec PyProof.Rows L2
theorem for_str {t : List Nat} {g : TG} {tb : TS} {D : Ends} {σ : L2.St} {H : Hp} (Pv : Nat → L2.St → Hp → Prop) (h0 : Pv 0 σ H)
    (hs : ∀ i c σ H, t[i]? = some c → Pv i σ H → g (.str ⟨#[c]⟩) σ H fun σ2 H2 => tb { D with nx := Pv (i + 1), ct := Pv (i + 1), bk := D.nx } σ2 H2) (hd : ∀ σ H, Pv t.length σ H → D.nx σ H) :
    ∃ W : Nat → Nat → L2.St → Hp → Prop, (∃ m, W 0 m σ H) ∧ ∀ i m σ H, W i m σ H →
      ((Its (SX.S t)).stop i H ∧ D.nx σ H) ∨ ((Its (SX.S t)).go i H ∧ ∃ N : L2.St → Hp → Prop, (∀ σ' H', N σ' H' → ∃ m', m' < m ∧ W (i + 1) m' σ' H') ∧ ∀ x H', (Its (SX.S t)).yld i H x H' → g x σ H' fun σ2 H2 => tb { D with nx := N, ct := N, bk := D.nx } σ2 H2) := by
  have el : (SX.S t).cps.size = t.length := SX.S_len t
  refine ⟨fun i m σ H => m = t.length - i ∧ i ≤ t.length ∧ Pv i σ H, ⟨t.length, by simp, Nat.zero_le _, h0⟩, ?_⟩
  rintro i m σ H ⟨rfl, hi, p⟩
  by_cases hlt : i < t.length
  · refine .inr ⟨(by show i < (SX.S t).cps.size; rw [el]; exact hlt), Pv (i + 1), fun σ' H' p' => ⟨t.length - (i + 1), by omega, rfl, hlt, p'⟩, fun x H' y => ?_⟩
    obtain ⟨e, c, hc, y⟩ := y
    subst e y
    refine hs i c σ _ ?_ p
    rw [← hc]; exact (List.getElem?_toArray).symm
  · have e : i = t.length := by omega
    subst e
    exact .inl ⟨(by show (SX.S t).cps.size ≤ t.length; rw [el]; exact Nat.le_refl _), hd σ H p⟩
end Cs
namespace Cs
open PySem PySem.Spec PyProof.Rows L2
theorem Dm.none {CX : CXT} {P : Program} {w : World} {K : PySem.W.Frag} {mg : Str → Option Value} {base : Heap} {k : Nat} {C : Addr} {m qual : Str} {sp : Sp} {st : Stmt} {ps : List Str} (D : Dm K C m qual st ps) (no : ∀ vs H Q E, ¬ sp vs H Q E) : Ml CX P w K mg base k C m sp := by
  obtain ⟨f, fd, F, hm, hf, hb⟩ := D.ex
  exact ⟨f, fd, ps, ⟨fun vs H Q E h => absurd h (no vs H Q E), fun A outer s H args us vs Q E _ _ _ _ h => absurd h (no vs H Q E)⟩, ⟨hm, hf, F.kp⟩, hb⟩
end Cs
namespace Cs
open PySem PySem.Spec PyProof.Rows L2
theorem tag_if (f : Fm) : decide (V.str f.tag = V.str "if") = f.isIm := by
  cases f with
  | lt x => exact (by decide +kernel : decide (V.str "letter" = V.str "if") = false)
  | ng x => exact (by decide +kernel : decide (V.str "not" = V.str "if") = false)
  | im p q => exact (by decide +kernel : decide (V.str "if" = V.str "if") = true)
theorem tag_not (f : Fm) : decide (V.str f.tag = V.str "not") = match f with | .ng _ => true | _ => false := by
  cases f with
  | lt x => exact (by decide +kernel : decide (V.str "letter" = V.str "not") = false)
  | ng x => exact (by decide +kernel : decide (V.str "not" = V.str "not") = true)
  | im p q => exact (by decide +kernel : decide (V.str "if" = V.str "not") = false)
theorem tag_lt (f : Fm) : decide (V.str f.tag = V.str "letter") = f.isLt := by
  cases f with
  | lt x => exact (by decide +kernel : decide (V.str "letter" = V.str "letter") = true)
  | ng x => exact (by decide +kernel : decide (V.str "not" = V.str "letter") = false)
  | im p q => exact (by decide +kernel : decide (V.str "if" = V.str "letter") = false)
/-- the three shapes at once -/
def Fm.sh (K : PySem.W.Frag) (H : Hp) (x : V) (r : List V) : Fm → Prop
  | .lt n => x = .str n ∧ r = []
  | .ng p => FmV K H x p ∧ r = []
  | .im p q => ∃ y, r = [y] ∧ FmV K H x p ∧ FmV K H y q
theorem fm_sh {K : PySem.W.Frag} {H : Hp} {v : V} : ∀ {f : Fm}, FmV K H v f → ∃ a x r, v = .ref a ∧ SqT K H a (.str f.tag :: x :: r) ∧ Fm.sh K H x r f
  | .lt n, h => by obtain ⟨a, rfl, h1⟩ := fm_lt h; exact ⟨a, _, _, rfl, h1, rfl, rfl⟩
  | .ng p, h => by obtain ⟨a, x, rfl, h1, h2⟩ := fm_ng h; exact ⟨a, _, _, rfl, h1, h2, rfl⟩
  | .im p q, h => by obtain ⟨a, x, y, rfl, h1, h2, h3⟩ := fm_im h; exact ⟨a, _, _, rfl, h1, y, rfl, h2, h3⟩
end Cs

namespace Cs
open PySem PySem.Spec PyProof.Rows L2 GenW
open Sem (wp)
/-! ### generator expressions whose elements call: the run's own context -/
abbrev gcx (X : Cx) (Ag : Around) (s : Shared) (H : Hp) (scope : Scope) (cl : List (Str × Addr)) (C : Addr) (code : Value) (fp : List Addr) (pn : List (Addr × Obj)) : Cx :=
  { X with A := Ag, s_0 := s, H_0 := H, env := genEnv scope cl C code builtinsNs X.env, outer := X.stack, stack := genEnv scope cl C code builtinsNs X.env :: X.stack, ex := fp, fn := fun _ => false, pn := pn, xe := fun _ _ => False }
theorem over_gen {A : Around} {elt tg iter : Expr} {ifs : List Expr} {scope : Scope} {pos : Pos} {it acc : Value} {env : Env} : A.over (.compLoop (.GeneratorExp elt [⟨tg, iter, ifs, 0⟩] scope pos) 0 it acc env) [] = A.deeper env := by
  first
    | rfl
    | (obtain ⟨hd, d, fr, gs, u⟩ := A; simp [Around.over, Around.deeper, marksOver, frameCount, unitsOf, envsOf, guardsOf, pushEnvs, pushGuards, Code.envs, Code.env?, Code.isFrame, Code.guards, Code.isGuard, Code.weight, Code.frames, Code.isCreation, Code.isCaller, Code.cUnits])
theorem over_genS {A : Around} {elt tg iter : Expr} {ifs : List Expr} {scope : Scope} {pos : Pos} {it acc : Value} {env : Env} : A.over (.compStart (.GeneratorExp elt [⟨tg, iter, ifs, 0⟩] scope pos) 0 it acc env) [] = A.deeper env := by
  first
    | rfl
    | (obtain ⟨hd, d, fr, gs, u⟩ := A; simp [Around.over, Around.deeper, marksOver, frameCount, unitsOf, envsOf, guardsOf, pushEnvs, pushGuards, Code.envs, Code.env?, Code.isFrame, Code.guards, Code.isGuard, Code.weight, Code.frames, Code.isCreation, Code.isCaller, Code.cUnits])
section
variable {X : Cx} {pins : List (Addr × Obj)} {σ : L2.St} {H : Hp} {s s5 : Shared}
/-- the run begins; pn, pq: what stands as it is -/
theorem gen_start {Ag : Around} {scope : Scope} {own : List (Str × Nat)} {fp : List Addr} {code : Value} {pn pq : List (Addr × Obj)} {m0 : Str → Option Value} (I : Inv X pins σ H s) (ok : BlkOk X.N X.env.scope scope own) (hN : X.N.Nodup) (hcell : ∀ y ∈ scope.names, y.2 ≠ .cell)
    (hfp : ∀ b ∈ fp, FpOk X pins H b ∧ b < s.heap.objs.size) (hh : Ag.handled = none) (hfr : Ag.frames = some (genEnv scope (cloFrom X.env.cells scope.names []) s.heap.objs.size code builtinsNs X.env :: X.stack))
    (os : s5.os = s.os) (hb : AllBare s5.gens) (kp : ∀ b o, s.heap.get? b = some o → s5.heap.get? b = some o) (hn0 : s5.heap.Ns s.heap.objs.size m0)
    (hp : ∀ p ∈ pn ++ pq, s5.heap.get? p.1 = some p.2 ∧ H p.1 = none ∧ p.1 ≠ s.heap.objs.size ∧ p.1 ∉ frs X.stack ∧ ∀ v, p.2.data ≠ .cell v) :
    Inv (gcx X Ag s H scope (cloFrom X.env.cells scope.names []) s.heap.objs.size code fp pn) pq (wipe σ (own.map (·.2))) H s5 := by
  have hfree : ∀ y ∈ scope.names, y.2 = .free → ∃ c, X.env.cells.lookup y.1 = some c := fun y hy e => by
    rcases ok.free y hy e with k | k
    · exact I.ok.has _ (.inl k)
    · exact I.ok.has _ (.inr k)
  have cm : ∀ {y c}, (cloFrom X.env.cells scope.names []).lookup y = some c → X.env.cells.lookup y = some c ∧ c < s.heap.objs.size := fun {y c} e => by
    rcases cloFrom_mem (PySem.mem_of_lookup e) with hm | ⟨h1, rfl⟩
    · cases hm
    · obtain ⟨c, hc⟩ := hfree _ h1 rfl
      rw [hc]
      obtain ⟨w, z⟩ := I.cell _ _ hc
      exact ⟨rfl, z.lt⟩
  have look : ∀ {y}, scope.names.lookup y = some .free → ∃ c, (cloFrom X.env.cells scope.names []).lookup y = some c ∧ X.env.cells.lookup y = some c := fun {y} hl => by
    have hy : (y, NameKind.free) ∈ scope.names := PySem.mem_of_lookup hl
    obtain ⟨c', e'⟩ := mem_lookup (cloFrom_has (cells := X.env.cells) (acc := []) hy)
    exact ⟨c', e', (cm e').1⟩
  have nocell : ∀ {y}, scope.names.lookup y ≠ some .cell := fun {y} hl => hcell _ (PySem.mem_of_lookup hl) rfl
  refine ⟨⟨I.ok.mod, ok.kind, I.ok.glob, rfl, Nat.le_refl _, fun y z c e1 e2 => I.ok.inj y z c (cm e1).1 (cm e2).1, fun y hy => ?_, (fun y c z e => nomatch z), fun _ => hh, hfr, .inr ⟨rfl, rfl⟩, fun b hb => ⟨Nat.ne_of_lt (hfp b hb).2, fun y c e z => (hfp b hb).1.2.2.2.2.1 y c (cm e).1 z⟩, I.bs, Nat.le_trans I.ok.bsz I.sz, fun b o e hb => ?_, fun b hb z => ?_, I.stack, I.stkFree⟩,
    os, hb, Un.kept kp, ⟨m0, hn0, fun i y av e1 e2 e3 => ?_⟩, fun y c e => ?_, I.hok.fresh (Nat.le_refl _), fun y c e => I.freeC y c (cm e).1, hp, I.hok.kept kp, by rw [wipe_length]; exact I.len⟩
  · rcases hy with hy | hy
    · exact absurd hy nocell
    · obtain ⟨c, h1, _⟩ := look hy
      exact ⟨c, h1⟩
  · rcases (hfp b hb).1.2.2.2.1 with z | z
    · exact I.ok.noex b o e z
    · exact absurd (Nat.lt_of_lt_of_le (Heap.lt_size e) (Nat.le_trans I.ok.bsz z)) (Nat.lt_irrefl _)
  · rcases List.mem_cons.mp (I.stkSub b z) with z | z
    · exact (hfp b hb).1.2.1 z
    · exact (hfp b hb).1.2.2.1 z
  · obtain ⟨e2, hne⟩ := wipe_some e2
    have e3 : Vis scope y := e3
    have hfr : scope.names.lookup y = some .free := by
      rcases e3 with e3 | e3 | e3
      · exfalso
        rcases ok.own _ (PySem.mem_of_lookup e3) (.inl rfl) with e' | e'
        · obtain ⟨p, hp, hpy⟩ := List.mem_map.mp e'
          have e3 := ok.ix p hp
          have : p.1 = y := hpy
          rw [this] at e3
          exact hne (List.mem_map.mpr ⟨p, hp, nodup_ix hN e3 e1⟩)
        · exact e' (List.mem_of_getElem? e1)
      · exact absurd e3 nocell
      · exact e3
    obtain ⟨m, hn, hl⟩ := I.loc
    have hvis : Vis X.env.scope y := (ok.free _ (PySem.mem_of_lookup hfr) rfl).elim (fun k => .inr (.inl k)) (fun k => .inr (.inr k))
    obtain ⟨w, r, q⟩ := hl i y av e1 e2 hvis
    refine ⟨w, r, .inr ⟨.inr hfr, ?_⟩⟩
    obtain ⟨c, h1, h2⟩ := look hfr
    rcases q with ⟨k, _⟩ | ⟨_, c', e', z⟩
    · have k : X.env.scope.names.lookup y = some .local := k
      rcases ok.free _ (PySem.mem_of_lookup hfr) rfl with k' | k' <;> rw [show X.env.scope.names.lookup y = _ from k'] at k <;> cases k
    · rw [h2] at e'; cases e'
      exact ⟨c, h1, z.keeps kp⟩
  · obtain ⟨w, z⟩ := I.cell y c (cm e).1
    exact ⟨w, z.keeps kp⟩
/-- while it sleeps its consumer changes its own object S, and the generators' states -/
theorem inv_nap {s' : Shared} {S : Option Addr} (I : Inv X pins σ H s) (hA : ∀ b, S = some b → Apart X b ∧ H b = none ∧ ∀ p ∈ X.pn ++ pins, p.1 ≠ b) (os : s'.os = s.os) (hb : AllBare s'.gens)
    (kp : ∀ b o, S ≠ some b → s.heap.get? b = some o → s'.heap.get? b = some o) : Inv X pins σ H s' := by
  have nt : ∀ b u, H b = some u → S ≠ some b := fun b u q e => by rw [(hA b e).2.1] at q; cases q
  have nc : ∀ b, b ∉ S.toList → S ≠ some b := fun b hb e => hb (by rw [e]; exact List.mem_singleton_self _)
  refine I.call' (ch := S.toList) os ⟨fun b o e _ _ hc => kp b o (nc b hc) e, fun b o e _ _ hc => ⟨o.slots, kp b o (nc b hc) e⟩, fun _ _ _ n _ => n, fun b o e hc => ⟨o, kp b o (nc b hc) e⟩, fun _ _ q => q, fun _ _ _ q => q, fun b ps q => ⟨#[], by rw [q]; simp⟩⟩ (fun b u q => ?_) hb fun b hb => ?_
  · refine (I.hok b u q).stay (fun c v hc y => kp c v ?_ y) (fun _ y => y) fun _ _ y => y
    rcases hc with y | y
    · rw [y]; exact nt b u q
    · exact nt c _ y
  · have e : S = some b := by
      cases S with
      | none => cases hb
      | some c => rw [List.mem_singleton.mp hb]
    obtain ⟨h1, h2, h3⟩ := hA b e
    exact ⟨.inr h1.1, h1.2.1, h1.2.2, h3⟩
end
end Cs
namespace Cs
open PySem PySem.Spec PyProof.Rows L2 GenW
open Sem (wp)
/-! ### the run: its protocol and its loop -/
/-- what a consumer asks of an item: what is out so far, the item, the heap; c: what is to hold when it goes on -/
abbrev Eat := List V → V → Hp → Prop → Prop
def EatMono (E : Eat) : Prop := ∀ ys y H (c d : Prop), (c → d) → E ys y H c → E ys y H d
/-- the consumer's own object -/
def PinS (S : Option Addr) (CO : List V → Obj → Prop) (ys : List V) (p : List (Addr × Obj)) : Prop :=
  match S with
  | none => p = []
  | some b => ∃ o, CO ys o ∧ (∀ v, o.data ≠ .cell v) ∧ p = [(b, o)]
/-- what stands between two items, for those outside -/
structure Out (X : Cx) (S : Option Addr) (CO : List V → Obj → Prop) (a : Addr) (g : Nat) (s5 : Shared) (H5 : Hp) (fp : List Addr) (ys : List V) (H : Hp) (s : Shared) : Prop where
  os : s.os = s5.os
  bare : AllBare s.gens
  lim : s.heap.NoLimit
  gen : s.heap.IsGen a g
  un : Un (frs X.stack) fp H5 H s5.heap s.heap
  hok : HOk X.prog X.w H s.heap
  own : ∀ b, S = some b → H b = none ∧ ∃ o, s.heap.get? b = some o ∧ CO ys o
structure Nap (S : Option Addr) (CO : List V → Obj → Prop) (ys : List V) (s s' : Shared) : Prop where
  os : s'.os = s.os
  bare : AllBare s'.gens
  keep : ∀ b o, S ≠ some b → s.heap.get? b = some o → s'.heap.get? b = some o
  own : ∀ b, S = some b → ∃ o, s'.heap.get? b = some o ∧ CO ys o ∧ ∀ v, o.data ≠ .cell v
def YG (X : Cx) (S : Option Addr) (CO : List V → Obj → Prop) (E : Eat) (a : Addr) (g : Nat) (s5 : Shared) (H5 : Hp) (fp : List Addr) : Protocol := fun _ s₀ v s kap =>
  (∀ b o, S = some b → s₀.heap.get? b = some o → s.heap.get? b = some o) ∧ ∃ ys y H, RelV y v ∧ Out X S CO a g s5 H5 fp ys H s ∧ E ys y H (∀ s', Nap S CO (ys ++ [y]) s s' → kap (.send .none) s')
def RG (X : Cx) (S : Option Addr) (CO : List V → Obj → Prop) (Qe : List V → Hp → Prop) (a : Addr) (g : Nat) (s5 : Shared) (H5 : Hp) (fp : List Addr) : GenEnd := fun _ s₀ r s =>
  ((r = .ok (.ret .none) ∨ r = .ok .next) ∧ (∀ b o, S = some b → s₀.heap.get? b = some o → s.heap.get? b = some o) ∧ ∃ ys H, Out X S CO a g s5 H5 fp ys H s ∧ Qe ys H) ∨ ∃ e, r = .error e ∧ False
theorem out_of {X : Cx} {Ag : Around} {s5 : Shared} {H5 H : Hp} {scope : Scope} {cl : List (Str × Addr)} {C a : Addr} {g : Nat} {code : Value} {fp : List Addr} {go : Obj} {S : Option Addr} {CO : List V → Obj → Prop} {ys : List V} {p ip : List (Addr × Obj)} {σ : L2.St} {s : Shared}
    (hgen : ∀ h : Heap, h.get? a = some go → h.IsGen a g) (hp : PinS S CO ys p) (I : Inv (gcx X Ag s5 H5 scope cl C code fp [(a, go)]) (p ++ ip) σ H s) : Out X S CO a g s5 H5 fp ys H s := by
  refine ⟨I.os, I.bare, I.nolimit, hgen _ (I.pin (a, go) (List.mem_append_left _ (List.mem_singleton_self _))).1, I.base, I.hok, fun b e => ?_⟩
  subst e
  obtain ⟨o, h1, _, rfl⟩ := hp
  obtain ⟨z1, z2, _⟩ := I.pin (b, o) (List.mem_append_right _ (List.mem_append_left _ (List.mem_singleton_self _)))
  exact ⟨z2, o, z1, h1⟩
/-- the reading's turn -/
def GTurn (E : Eat) (Qe : List V → Hp → Prop) (J : It) (g : TG) (tt : L2.TT) (te : TE) (σ0 : L2.St) (vs : List Nat) (W : Nat → Nat → List V → Hp → Prop) : Prop :=
  ∀ i m ys H, W i m ys H → (J.stop i H ∧ Qe ys H) ∨ (J.go i H ∧ ∃ Nx : List V → Hp → Prop, (∀ ys' H', Nx ys' H' → ∃ m', m' < m ∧ W (i + 1) m' ys' H') ∧
    ∀ x H', J.yld i H x H' → g x σ0 H' fun σ2 H2 => wipe σ2 vs = σ0 ∧ tt σ2 H2 fun b H3 => if b = true then te σ2 H3 fun y H4 => E ys y H4 (Nx (ys ++ [y]) H4) else Nx ys H3)
theorem compTurn_genT (elt target iter : Expr) (ifs : List Expr) (scope : Scope) (pos : Pos) (it acc : Value) (env : Env) :
    compTurn (.GeneratorExp elt [⟨target, iter, ifs, 0⟩] scope pos) 0 it acc env = (do
      standAt iter.pos
      match ← pyNext it with
      | none => pure (.done .next)
      | some v =>
        letOwnedTupleGo target it v
        assign target env v
        let mut ok := true
        for c in ifs do
          if ok then ok ← isTrue c env (eval c env)
        if ok then
          (do let v ← eval elt env; standAt elt.pos; let _ ← yieldOut env v)
        again (.compLoop (.GeneratorExp elt [⟨target, iter, ifs, 0⟩] scope pos) 0 it acc env)) := by rfl
section
variable {X : Cx} {Aw : Around} {s5 : Shared} {H5 : Hp} {scope : Scope} {cl : List (Str × Addr)} {C a : Addr} {g : Nat} {code : Value} {fp : List Addr} {go : Obj} {S : Option Addr} {CO : List V → Obj → Prop} {E : Eat} {Qe : List V → Hp → Prop}
variable {elt tg iter : Expr} {ifs : List Expr} {pos : Pos} {J : It} {it : Addr} {tn : Nat → Heap → Prop} {tgr : TG} {tt : L2.TT} {te : TE} {σ0 : L2.St} {vs : List Nat} {W : Nat → Nat → List V → Hp → Prop}
theorem gen_loop (hE : EatMono E) (hc : X.calm = true) (hco : scope.isCoroutine = false) (hgen : ∀ h : Heap, h.get? a = some go → h.IsGen a g) (T : Turn X.prog X.w X.K tg J fp it tn) (hσ : wipe σ0 vs = σ0)
    (hS : ∀ b, S = some b → Apart (gcx X (Aw.deeper (genEnv scope cl C code builtinsNs X.env)) s5 H5 scope cl C code fp [(a, go)]) b ∧ a ≠ b ∧ b ∉ fp)
    (pg : PG (gcx X (Aw.deeper (genEnv scope cl C code builtinsNs X.env)) s5 H5 scope cl C code fp [(a, go)]) tg tgr) (pt : PTs (gcx X (Aw.deeper (genEnv scope cl C code builtinsNs X.env)) s5 H5 scope cl C code fp [(a, go)]) ifs tt)
    (pe : PE (gcx X (Aw.deeper (genEnv scope cl C code builtinsNs X.env)) s5 H5 scope cl C code fp [(a, go)]) elt te) (hfpa : a ∉ fp) (turn : GTurn E Qe J tgr tt te σ0 vs W) :
    ∀ (m n i : Nat) (ys : List V) (s₀ s : Shared) (H : Hp) (p : List (Addr × Obj)), m < n → W i m ys H → PinS S CO ys p → (∀ q ∈ p, s₀.heap.get? q.1 = some q.2) → Inv (gcx X (Aw.deeper (genEnv scope cl C code builtinsNs X.env)) s5 H5 scope cl C code fp [(a, go)]) p σ0 H s → tn i s.heap → (∀ b ∈ fp, H b = none) →
      Seg (model X.prog X.w) Aw (RG X S CO Qe a g s5 H5 fp) (YG X S CO E a g s5 H5 fp) n s₀ (.compLoop (.GeneratorExp elt [⟨tg, iter, ifs, 0⟩] scope pos) 0 (.ref it) .none (genEnv scope cl C code builtinsNs X.env))
        ((model X.prog X.w).den (.compLoop (.GeneratorExp elt [⟨tg, iter, ifs, 0⟩] scope pos) 0 (.ref it) .none (genEnv scope cl C code builtinsNs X.env))) [] s := by
  generalize hY : gcx X (Aw.deeper (genEnv scope cl C code builtinsNs X.env)) s5 H5 scope cl C code fp [(a, go)] = Y at pg pt pe hS ⊢
  have eA : Y.A = Aw.deeper (genEnv scope cl C code builtinsNs X.env) := by rw [← hY]
  have eE : Y.env = genEnv scope cl C code builtinsNs X.env := by rw [← hY]
  have eP : Y.prog = X.prog := by rw [← hY]
  have eW : Y.w = X.w := by rw [← hY]
  have eK : Y.K = X.K := by rw [← hY]
  have eX : Y.ex = fp := by rw [← hY]
  have eN : Y.pn = [(a, go)] := by rw [← hY]
  have xf : ∀ e s', ¬ Y.xe e s' := by rw [← hY]; exact fun _ _ z => z
  intro m
  induction m using Nat.strongRecOn with
  | ind m ih =>
    intro n i ys s₀ s H p hmn w hp hq0 I st nf
    have stat : ∀ {pp : List (Addr × Obj)} {σ' : L2.St} {H' : Hp} {s' : Shared}, Inv Y pp σ' H' s' → (∀ b ∈ fp, H' b = none) → (∀ q ∈ pp, q.1 ∉ fp) → ∀ b ∈ fp, FpOk Y pp H' b := fun {pp σ' H' s'} I' hn hq b hb => by
      have hb' : b ∈ Y.ex := by rw [eX]; exact hb
      refine ⟨hn b hb, (I'.ok.exf b hb').1, I'.ok.exfs b hb', .inl hb', fun x c e => (I'.ok.exf b hb').2 x c e, fun q hqm e => ?_⟩
      rcases List.mem_append.mp hqm with z | z
      · rw [eN] at z
        rw [List.mem_singleton.mp z] at e
        exact hfpa (by rw [show a = b from e]; exact hb)
      · exact hq q z (by rw [e]; exact hb)
    have same : ∀ {s' : Shared}, (∀ q ∈ p, s'.heap.get? q.1 = some q.2) → ∀ b o, S = some b → s₀.heap.get? b = some o → s'.heap.get? b = some o := fun {s'} h b o e e0 => by
      subst e
      obtain ⟨o1, _, _, rfl⟩ := hp
      have h1 := hq0 (b, o1) (List.mem_singleton_self _)
      have h2 := h (b, o1) (List.mem_singleton_self _)
      rw [e0] at h1
      cases h1
      exact h2
    have hpf : ∀ q ∈ p, q.1 ∉ fp := fun q hq => by
      cases S with
      | none => rw [show p = [] from hp] at hq; cases hq
      | some b =>
        obtain ⟨o, _, _, rfl⟩ := hp
        rw [List.mem_singleton.mp hq]
        exact (hS b rfl).2.2
    show Seg _ Aw _ _ _ s₀ _ ((compTurn (.GeneratorExp elt [⟨tg, iter, ifs, 0⟩] scope pos) 0 (.ref it) .none (genEnv scope cl C code builtinsNs X.env)).onRaise (leaving (genEnv scope cl C code builtinsNs X.env))) [] s
    rw [compTurn_genT, Sem.onRaise_eq_wrap]
    refine seg_bind_wrap (wpAny_standAt ?_)
    rcases turn i m ys H w with ⟨stop, qq⟩ | ⟨go', Nx, hNx, step⟩
    · have td := T.done Y eP eW eK (by rw [← hY]; exact hc) i p s _ H (fun _ _ => False) I (stat I nf hpf) st stop
      rw [eA] at td
      refine seg_bind_wrap ?_
      rw [over_gen]
      refine thnF td fun r s6 ⟨hr, I6⟩ => ?_
      subst hr
      refine seg_end (.ok .next) (.inl ⟨.inr rfl, same fun q hq => (I6.pin q (List.mem_append_right _ hq)).1, ys, H, ?_, qq⟩)
      rw [← hY] at I6
      exact out_of (ip := []) hgen hp (by rw [List.append_nil]; exact I6)
    · have ti := T.item Y eP eW eK (by rw [← hY]; exact hc) i p s _ H (fun _ _ => False) I (stat I nf hpf) st go'
      rw [eA] at ti
      refine seg_bind_wrap ?_
      rw [over_gen]
      refine thnF ti fun r s6 ⟨u, hr, h6⟩ => ?_
      subst hr
      refine seg_bind_wrap ?_
      rw [over_gen]
      refine thnF h6 fun _ s7 ⟨x, H7, I7, r7, y7, st7, n7⟩ => ?_
      have I7' := I7.pinned (stat I7 n7 hpf) (T.obj _ _ st7)
      have pgr := pg.run _ s7 _ H7 x u _ I7' r7 (step x H7 y7)
      rw [eP, eW, eA, eE] at pgr
      refine seg_bind_wrap ?_
      rw [over_gen]
      refine wpAny_mono pgr (fun _ s8 ⟨σ8, H8, I8, hw8, q8⟩ => ?_) fun e s' z => absurd z (xf e s')
      have ptr := pt.run _ s8 σ8 H8 _ I8 q8
      rw [eP, eW, eA, eE] at ptr
      refine seg_bind_wrap ?_
      rw [over_gen]
      refine wpAny_mono ptr (fun b s9 ⟨H9, I9, q9⟩ => ?_) fun e s' z => absurd z (xf e s')
      -- a turn's end
      have fin : ∀ {ys' : List V} {s' : Shared} {H' : Hp} {p' : List (Addr × Obj)}, PinS S CO ys' p' → Inv Y (p' ++ pinsAt fp s7.heap) σ8 H' s' → Nx ys' H' → ∀ (n' : Nat) (s₀ : Shared), (∀ q ∈ p', s₀.heap.get? q.1 = some q.2) → (∀ m', m' < m → m' < n') →
          Seg (model X.prog X.w) Aw (RG X S CO Qe a g s5 H5 fp) (YG X S CO E a g s5 H5 fp) n' s₀ (.compLoop (.GeneratorExp elt [⟨tg, iter, ifs, 0⟩] scope pos) 0 (.ref it) .none (genEnv scope cl C code builtinsNs X.env))
            (.pure (.again (.compLoop (.GeneratorExp elt [⟨tg, iter, ifs, 0⟩] scope pos) 0 (.ref it) .none (genEnv scope cl C code builtinsNs X.env)))) [] s' := fun {ys' s' H' p'} hp' I' nx n' s₀ hq' hle => by
        obtain ⟨m', hm, w'⟩ := hNx ys' H' nx
        have pin' : ∀ b ∈ fp, ∀ o, s7.heap.get? b = some o → s'.heap.get? b = some o ∧ H' b = none := fun b hb o e =>
          let z := I'.pin (b, o) (List.mem_append_right _ (List.mem_append_right _ (mem_pinsAt hb e)))
          ⟨z.1, z.2.1⟩
        have hl : σ0.length = σ8.length := by rw [← hw8, wipe_length]
        refine seg_again rfl (ih m' hm n' (i + 1) ys' s₀ s' H' p' (hle m' hm) w' hp' hq' (I'.unpinned.weak hl fun j v e => ?_) (T.keep _ _ _ st7 fun b hb o e => (pin' b hb o e).1) fun b hb => ?_)
        · rw [← hw8] at e
          exact (wipe_some e).1
        · obtain ⟨o, e, _⟩ := T.obj _ _ st7 b hb
          exact (pin' b hb o e).2
      cases b with
      | false =>
        simp only [Bool.false_eq_true, if_false] at q9 ⊢
        exact fin hp I9 q9 n s₀ hq0 fun m' hm => by omega
      | true =>
        simp only [if_true] at q9 ⊢
        have hy : ∀ v, yieldOut (genEnv scope cl C code builtinsNs X.env) v = yieldValue v := fun v => by
          have : (genEnv scope cl C code builtinsNs X.env).scope.isCoroutine = false := hco
          simp only [yieldOut, this, Bool.false_eq_true, if_false]
        have per := pe.run _ s9 σ8 H9 _ I9 q9
        rw [eP, eW, eA, eE] at per
        simp only [hy]
        rw [Sem.bind_eq_wrap', Sem.bind_eq_wrap', Sem.wrap_wrap, Sem.wrap_wrap]
        refine seg_wrap ?_
        rw [over_gen]
        refine wpAny_mono per (fun z s10 ⟨y, H10, I10, r10, q10⟩ => ?_) fun e s' z => absurd z (xf e s')
        obtain ⟨k, rfl⟩ : ∃ k, n = k + 1 := ⟨n - 1, by omega⟩
        have I0 : Inv Y (pinsAt fp s7.heap) σ8 H10 s10 := I10.pins_of fun q hq => I10.pin q (List.mem_append_right _ (List.mem_append_right _ hq))
        refine seg_at (seg_yield rfl rfl rfl ⟨same fun q hq => (I10.pin q (List.mem_append_right _ (List.mem_append_left _ hq))).1, ys, y, H10, r10, ?_, hE _ _ _ _ _ (fun nx s' nap => ?_) q10⟩)
        · rw [← hY] at I10
          exact out_of hgen hp I10
        have hA : ∀ b, S = some b → Apart Y b ∧ H10 b = none ∧ ∀ q ∈ Y.pn ++ pinsAt fp s7.heap, q.1 ≠ b := fun b e => by
          obtain ⟨h1, h2, h3⟩ := hS b e
          refine ⟨h1, ?_, fun q hq e2 => ?_⟩
          · subst e
            obtain ⟨o, _, _, rfl⟩ := hp
            exact (I10.pin (b, o) (List.mem_append_right _ (List.mem_append_left _ (List.mem_singleton_self _)))).2.1
          · rcases List.mem_append.mp hq with z | z
            · rw [eN] at z
              rw [List.mem_singleton.mp z] at e2
              exact h2 e2
            · have := (of_pinsAt z).1
              rw [e2] at this
              exact h3 this
        have I1 : Inv Y (pinsAt fp s7.heap) σ8 H10 s' := inv_nap I0 hA nap.os nap.bare nap.keep
        obtain ⟨p', hp', I2⟩ : ∃ p', PinS S CO (ys ++ [y]) p' ∧ Inv Y (p' ++ pinsAt fp s7.heap) σ8 H10 s' := by
          cases hSe : S with
          | none => exact ⟨[], rfl, I1⟩
          | some b =>
            obtain ⟨o', ho, hco', hnc⟩ := nap.own b hSe
            obtain ⟨_, z2, _⟩ := hA b hSe
            have hp2 := hp
            rw [hSe] at hp2
            obtain ⟨o, _, _, rfl⟩ := hp2
            obtain ⟨_, y2, y3, y4, _⟩ := I10.pin (b, o) (List.mem_append_right _ (List.mem_append_left _ (List.mem_singleton_self _)))
            refine ⟨[(b, o')], ⟨o', hco', hnc, rfl⟩, I1.pins_of fun q hq => ?_⟩
            rcases List.mem_append.mp hq with z | z
            · rw [List.mem_singleton.mp z]
              exact ⟨ho, z2, y3, y4, hnc⟩
            · exact I1.pin q (List.mem_append_right _ z)
        exact fin hp' I2 nx k s' (fun q hq => (I2.pin q (List.mem_append_right _ (List.mem_append_left _ hq))).1) fun m' hm => by omega
end
end Cs
namespace Cs
open PySem PySem.Spec PyProof.Rows L2 GenW
open Sem (wp)
theorem gen_first {P : Program} {w : World} {Aw : Around} {elt tg iter : Expr} {ifs : List Expr} {scope : Scope} {pos : Pos} {it : Addr} {cenv : Env} {R : GenEnd} {Y : Protocol} {n : Nat} {s₀ s : Shared} {K : PySem.W.Frag} {J : It} {fp : List Addr} {tn : Nat → Heap → Prop}
    (T : Turn P w K tg J fp it tn) (st : tn 0 s.heap)
    (loop : Seg (model P w) Aw R Y n s₀ (.compLoop (.GeneratorExp elt [⟨tg, iter, ifs, 0⟩] scope pos) 0 (.ref it) .none cenv) ((model P w).den (.compLoop (.GeneratorExp elt [⟨tg, iter, ifs, 0⟩] scope pos) 0 (.ref it) .none cenv)) [] s) :
    Seg (model P w) Aw R Y n s₀ (.compStart (.GeneratorExp elt [⟨tg, iter, ifs, 0⟩] scope pos) 0 (.ref it) .none cenv) ((model P w).den (.compStart (.GeneratorExp elt [⟨tg, iter, ifs, 0⟩] scope pos) 0 (.ref it) .none cenv)) [] s := by
  show Seg _ Aw _ _ _ s₀ _ ((compStart (.GeneratorExp elt [⟨tg, iter, ifs, 0⟩] scope pos) 0 (.ref it) .none cenv).onRaise (leaving cenv)) [] s
  unfold compStart
  rw [Sem.onRaise_eq_wrap]
  show Seg _ Aw _ _ _ s₀ _ ((ask >>= _).wrap _ _ _ _) [] s
  refine seg_bind_wrap (wpAny_askSetting ?_)
  split
  · exact seg_again rfl loop
  · first
      | exact seg_bind_wrap (wpAny_rule (seg_bind_wrap (wpAny_standAt (seg_bind_wrap (T.self _ 0 s _ _ st (seg_again rfl loop))))))
      | (refine seg_bind_wrap (wpAny_rule ?_); show Seg _ Aw _ _ _ s₀ _ ((standAt iter.pos >>= _).wrap _ _ _ _) [] s; exact seg_bind_wrap (wpAny_standAt (seg_bind_wrap (T.self _ 0 s _ _ st (seg_again rfl loop)))))
/-- a generator that has not begun -/
def GReady (X : Cx) (pins : List (Addr × Obj)) (σ : L2.St) (k : Nat) (E : Eat) (Qe : List V → Hp → Prop) (u : Value) (s5 : Shared) : Prop :=
  ∃ (a : Addr) (g : Nat) (c : Code) (H5 : Hp) (fp : List Addr) (sA : Shared) (n : Nat), u = .ref a ∧ Inv X pins σ H5 sA ∧ (∀ b ∈ fp, FpOk X pins H5 b) ∧ sA.heap.objs.size ≤ a ∧ a < s5.heap.objs.size ∧ s5.heap.IsGen a g ∧ s5.gens[g]? = some (.fresh c) ∧ s5.os = sA.os ∧ AllBare s5.gens ∧
    s5.heap.NoLimit ∧ (∀ b o, sA.heap.get? b = some o → s5.heap.get? b = some o) ∧
    ∀ (Aw : Around) (S : Option Addr) (CO : List V → Obj → Prop) (s2 : Shared), Room (k + 1) Aw → Aw.frames = some X.stack → (∀ b, S = some b → s5.heap.objs.size ≤ b ∧ ∃ o, s2.heap.get? b = some o ∧ CO [] o ∧ ∀ v, o.data ≠ .cell v) →
      (∀ b o, s5.heap.get? b = some o → s2.heap.get? b = some o) → s2.os = s5.os → AllBare s2.gens →
      Seg (model X.prog X.w) Aw (RG X S CO Qe a g sA H5 fp) (YG X S CO E a g sA H5 fp) n s2 c ((model X.prog X.w).den c) [] s2
/-- the reading: P the running def's table -/
def tGen (P : Addr) (E : Eat) (Qe : List V → Hp → Prop) (wi : TI) (g : TG) (tt : L2.TT) (te : TE) (vs : List Nat) (σ : L2.St) (H : Hp) : Prop :=
  wi σ H fun J H1 => GxR.TabG H1 P ∧ ∀ H2, GxR.Tabbed P H1 H2 → ∃ W, (∃ m, W 0 m [] H2) ∧ GTurn E Qe J g tt te (wipe σ vs) vs W
theorem wipe_wipe (σ : L2.St) : ∀ vs : List Nat, wipe (wipe σ vs) vs = wipe σ vs := by
  intro vs
  refine List.ext_getElem? fun i => ?_
  have key : ∀ (vs : List Nat) (τ : L2.St), (wipe τ vs)[i]? = if i ∈ vs then (τ[i]?).map fun _ => none else τ[i]? := by
    intro vs
    induction vs with
    | nil => intro τ; simp [wipe]
    | cons v vs ih =>
      intro τ
      unfold wipe
      rw [List.getElem?_set]
      by_cases h : v = i
      · subst h
        simp only [if_true, List.mem_cons, true_or, wipe_length]
        by_cases hl : v < τ.length
        · rw [if_pos hl, List.getElem?_eq_getElem hl]; rfl
        · rw [if_neg hl, List.getElem?_eq_none (by omega)]; rfl
      · rw [if_neg h, ih]
        have : (i ∈ v :: vs) = (i ∈ vs) := by
          rw [List.mem_cons, eq_iff_iff]
          exact ⟨fun z => z.elim (fun e => absurd e.symm h) id, .inr⟩
        simp only [this]
  rw [key, key]
  by_cases h : i ∈ vs
  · simp only [if_pos h, Option.map_map]; rfl
  · simp only [if_neg h]
/-- a generator expression's own scope -/
structure GSc (N : List Str) (sc scope : Scope) (own : List (Str × Nat)) : Prop where
  ok : BlkOk N sc scope own
  co : scope.isCoroutine = false
  cell : ∀ y ∈ scope.names, y.2 ≠ .cell
  dot : scope.names.lookup (".0" : Str) = some NameKind.local
section
variable {X : Cx} {pins : List (Addr × Obj)} {σ : L2.St} {H : Hp} {s : Shared}
theorem gen_make {c P : Addr} {elt tg iter : Expr} {ifs : List Expr} {scope : Scope} {own : List (Str × Nat)} {pos : Pos} {wi : TI} {g : TG} {tt : L2.TT} {te : TE} {k : Nat} {E : Eat} {Qe : List V → Hp → Prop}
    (hr : Room k X.A) (hc : X.calm = true) (hN : X.N.Nodup) (TB : GxR.TabB X.base X.mg c P) (hcode : X.env.code = .ref c) (S : GSc X.N X.env.scope scope own) (hi : PI X tg iter wi)
    (hg : ∀ (Ag : Around) (s : Shared) (H : Hp) (cl : List (Str × Addr)) (C : Addr) (code : Value) (fp : List Addr) (pn : List (Addr × Obj)), Room k Ag → PG (gcx X Ag s H scope cl C code fp pn) tg g)
    (ht : ∀ (Ag : Around) (s : Shared) (H : Hp) (cl : List (Str × Addr)) (C : Addr) (code : Value) (fp : List Addr) (pn : List (Addr × Obj)), Room k Ag → PTs (gcx X Ag s H scope cl C code fp pn) ifs tt)
    (he : ∀ (Ag : Around) (s : Shared) (H : Hp) (cl : List (Str × Addr)) (C : Addr) (code : Value) (fp : List Addr) (pn : List (Addr × Obj)), Room k Ag → PE (gcx X Ag s H scope cl C code fp pn) elt te)
    (hs : ∀ v, genFold iter X.env v = pure v) (hE : EatMono E) (I : Inv X pins σ H s) (h : tGen P E Qe wi g tt te (own.map (·.2)) σ H) :
    wpAny (model X.prog X.w) X.A (eval (.GeneratorExp elt [⟨tg, iter, ifs, 0⟩] scope pos) X.env) (GReady X pins σ k E Qe) X.xe s := by
  have hfree : ∀ y ∈ scope.names, y.2 = .free → ∃ c, X.env.cells.lookup y.1 = some c := fun y hy e => by
    rcases S.ok.free y hy e with k | k
    · exact I.ok.has _ (.inl k)
    · exact I.ok.has _ (.inr k)
  refine wpAny_GeneratorExp_make S.co (closure_ok hfree) S.cell S.dot S.ok.kind (by have := hr.dp; omega) ?_ hs
  refine thn (hi.run pins s σ H _ I h) fun xv s1 hx => thn hx fun itv s2 h2 => ?_
  obtain ⟨it, fp, tn, J, H2, e, I2, T, st2, f2, ⟨ps, hP, htr⟩, q⟩ := h2
  subst e
  have hPs : s2.heap.get? P = some { cls := .none, data := .fields ps } := I2.hok P _ hP
  have cd : PySem.W.CodeHd s2.heap c P := TB.code.keeps fun b u e => I2.bk b u e
  refine ⟨I2.nolimit, ?_⟩
  have cont : ∀ (code : Value) (h3 : Heap) (tk : Nat) (ps' : Array Value), Heap.ExtBut P s2.heap h3 → s2.heap.objs.size ≤ h3.objs.size → h3.get? P = some { cls := .none, data := .fields ps' } → (∃ more, ps' = ps ++ more) → TriplesOk ps'.toList →
      wpAny (model X.prog X.w) X.A (builtinsFor X.env.globals X.env.builtins) (fun bi s₄ => ∀ h', h'.Ns s₄.heap.objs.size (fun y => if y = ".0" then some (.ref it) else none) → Heap.SameBut s₄.heap.objs.size (s₄.heap.push { cls := .type "frame", data := .dict #[] }) h' →
          GReady X pins σ k E Qe (.ref h'.objs.size) { s₄ with
            gens := s₄.gens.push (.fresh (.compStart (.GeneratorExp elt [⟨tg, iter, ifs, 0⟩] scope pos) 0 (.ref it) .none (genEnv scope (cloFrom X.env.cells scope.names []) s₄.heap.objs.size code bi X.env))),
            toks := s₄.toks + 1 + 1 + 1,
            heap := h'.push { cls := .type "generator", data := .fields #[.int s₄.gens.size 0, .str "<genexpr>" (s₄.toks + 1), .str (X.env.qual ++ "<genexpr>") (s₄.toks + 1 + 1)] } }) X.xe { s2 with heap := h3, toks := tk } := by
    intro code h3 tk ps' hx hsz hP3 hmore ht3
    obtain ⟨bm, ob, e1, e2, e3, e4, e5, e6, e7, e8⟩ := TB.bm
    have keep3 : ∀ b u, b ≠ P → s2.heap.get? b = some u → h3.get? b = some u := fun b u hb e => hx b u hb e
    refine wpAny_builtinsFor (m := X.mg) (by rw [I2.ok.glob]; exact (I2.mod.glob.keeps I2.bk).extBut hx TB.gP) e1 e2 (keep3 _ _ e4 (I2.bk _ _ e5)) e6 e7 e8 ?_
    obtain ⟨more, rfl⟩ := hmore
    have J4 := GxR.inv_tab (more := more) (h' := h3) (g' := s2.gens) (d' := s2.drawn) (t' := tk) I2 hP keep3 hP3 I2.bare
    generalize hs4 : ({ s2 with heap := h3, toks := tk } : Shared) = s4
    have J4 : Inv X pins σ (upd H2 P (.tbl (ps ++ more))) s4 := by rw [← hs4]; exact J4
    have h34 : s4.heap = h3 := by rw [← hs4]
    obtain ⟨W, ⟨m0, w0⟩, turn⟩ := q (upd H2 P (.tbl (ps ++ more))) ⟨⟨ps ++ more, upd_same, ht3⟩, fun b hb => upd_ne hb⟩
    have nP : ∀ b ∈ fp, b ≠ P := fun b hb z => by
      have := (f2 b hb).1
      rw [z, hP] at this; cases this
    have f4 : ∀ b ∈ fp, FpOk X pins (upd H2 P (.tbl (ps ++ more))) b ∧ b < s4.heap.objs.size := fun b hb => by
      refine ⟨⟨by rw [upd_ne (nP b hb)]; exact (f2 b hb).1, (f2 b hb).2⟩, ?_⟩
      obtain ⟨o, e, _⟩ := T.obj _ _ st2 b hb
      rw [h34]
      exact Nat.lt_of_lt_of_le (Heap.lt_size e) hsz
    have st4 : tn 0 s4.heap := T.keep _ _ _ st2 fun b hb o e => by rw [h34]; exact keep3 b o (nP b hb) e
    intro h' hn' hs'
    have hsz' : h'.objs.size = s4.heap.objs.size + 1 := by rw [hs'.1, Heap.size_push]
    have keep' : ∀ b o, s4.heap.get? b = some o → h'.get? b = some o := fun b o e => hs'.extBut b o (Nat.ne_of_lt (Heap.lt_size e)) (Heap.get?_push_of_some _ e)
    generalize hgo : ({ cls := .type "generator", data := .fields #[.int s4.gens.size 0, .str "<genexpr>" (s4.toks + 1), .str (X.env.qual ++ "<genexpr>") (s4.toks + 1 + 1)] } : Obj) = go
    have hgen : ∀ h : Heap, h.get? h'.objs.size = some go → h.IsGen h'.objs.size s4.gens.size := fun h e => ⟨go, _, _, e, by rw [← hgo], by rw [← hgo], by rw [← hgo]⟩
    have hpush : (h'.push go).get? h'.objs.size = some go := by
      rw [← hgo]; exact Heap.get?_push_size _ rfl
    have keep5 : ∀ b o, s4.heap.get? b = some o → (h'.push go).get? b = some o := fun b o e => Heap.get?_push_of_some _ (keep' b o e)
    refine ⟨h'.objs.size, s4.gens.size, _, _, fp, s4, m0 + 1, rfl, J4, fun b hb => (f4 b hb).1, by omega, (by show _ < (h'.push go).objs.size; rw [Heap.size_push]; exact Nat.lt_succ_self _), hgen _ hpush, Array.getElem?_push_size .., rfl, AllBare.push J4.bare rfl, J4.nolimit.keeps keep5, keep5, ?_⟩
    intro Aw Sx CO s6 hrw hfr hSx hk6 hos hba
    have hk46 : ∀ b o, s4.heap.get? b = some o → s6.heap.get? b = some o := fun b o e => hk6 b o (keep5 b o e)
    have young : ∀ b, s4.heap.objs.size ≤ b → (upd H2 P (.tbl (ps ++ more))) b = none ∧ b ∉ frs X.stack ∧ b ∉ fp := fun b hb => by
      refine ⟨J4.hok.fresh hb, fun hm => ?_, fun hm => absurd (Nat.lt_of_lt_of_le (f4 b hm).2 hb) (Nat.lt_irrefl _)⟩
      obtain ⟨_, o, ho, _⟩ := J4.stack.mem hm
      exact absurd (Nat.lt_of_lt_of_le (Heap.lt_size ho) hb) (Nat.lt_irrefl _)
    have hsz5 : (h'.push go).objs.size = s4.heap.objs.size + 2 := by rw [Heap.size_push, hsz']
    have hSa : ∀ b, Sx = some b → s4.heap.objs.size + 2 ≤ b ∧ ∃ o, s6.heap.get? b = some o ∧ CO [] o ∧ ∀ v, o.data ≠ .cell v := fun b e => by
      obtain ⟨h1, h2⟩ := hSx b e
      have h1 : (h'.push go).objs.size ≤ b := h1
      exact ⟨by omega, h2⟩
    obtain ⟨pq, hpq, hpin⟩ : ∃ pq, PinS Sx CO [] pq ∧ ∀ p ∈ pq, s6.heap.get? p.1 = some p.2 ∧ s4.heap.objs.size + 2 ≤ p.1 ∧ ∀ v, p.2.data ≠ .cell v := by
      cases hSe : Sx with
      | none => exact ⟨[], rfl, fun p hp => nomatch hp⟩
      | some b =>
        obtain ⟨h1, o, h2, h3, h4⟩ := hSa b hSe
        exact ⟨[(b, o)], ⟨o, h3, h4, rfl⟩, fun p hp => by rw [List.mem_singleton.mp hp]; exact ⟨h2, h1, h4⟩⟩
    have gdat : ∀ v, go.data ≠ .cell v := fun v e => by rw [← hgo] at e; cases e
    have I6 := gen_start (Ag := Aw.deeper (genEnv scope (cloFrom X.env.cells scope.names []) s4.heap.objs.size code builtinsNs X.env)) (s5 := s6) (code := code) (pn := [(h'.objs.size, go)]) (pq := pq) J4 S.ok hN S.cell f4 hrw.hd (Around.frames_deeper hfr) hos hba hk46
      ((hn'.push go).keeps hk6) (fun p hp => by
        rcases List.mem_append.mp hp with z | z
        · rw [List.mem_singleton.mp z]
          obtain ⟨y1, y2, _⟩ := young h'.objs.size (by omega)
          exact ⟨hk6 _ _ hpush, y1, (by show h'.objs.size ≠ _; omega), y2, gdat⟩
        · obtain ⟨y0, y9, y8⟩ := hpin p z
          obtain ⟨y1, y2, _⟩ := young p.1 (by omega)
          exact ⟨y0, y1, Nat.ne_of_gt (Nat.lt_of_lt_of_le (Nat.lt_add_of_pos_right (by decide)) y9), y2, y8⟩)
    refine gen_first T (T.keep _ _ _ st4 fun b hb o e => hk46 b o e) ?_
    refine gen_loop hE hc S.co hgen T (wipe_wipe σ _) (fun b e => ?_) (hg _ _ _ _ _ _ _ _ (hrw.deeper _)) (ht _ _ _ _ _ _ _ _ (hrw.deeper _)) (he _ _ _ _ _ _ _ _ (hrw.deeper _)) (young h'.objs.size (by omega)).2.2 turn m0 (m0 + 1) 0 [] s6 s6 _ pq (Nat.lt_succ_self _) w0 hpq (fun q hq => (hpin q hq).1) I6
      (T.keep _ _ _ st4 fun b hb o e => hk46 b o e) (fun b hb => (f4 b hb).1.1)
    obtain ⟨h1, _⟩ := hSa b e
    obtain ⟨y1, y2, y3⟩ := young b (by omega)
    refine ⟨⟨(by show s4.heap.objs.size ≤ b; omega), Nat.ne_of_gt (Nat.lt_of_lt_of_le (Nat.lt_add_of_pos_right (by decide)) h1), fun x c e2 z => ?_⟩, Nat.ne_of_lt (Nat.lt_of_lt_of_le (by rw [hsz']; exact Nat.lt_succ_self _) h1), y3⟩
    have e2 : (cloFrom X.env.cells scope.names []).lookup x = some c := e2
    rcases cloFrom_mem (PySem.mem_of_lookup e2) with hm | ⟨h9, rfl⟩
    · cases hm
    · obtain ⟨c', hc'⟩ := hfree _ h9 rfl
      rw [hc'] at z
      obtain ⟨w, zc⟩ := J4.cell _ _ hc'
      have hlt : c' < s4.heap.objs.size := zc.lt
      have z : c' = b := z
      rw [z] at hlt
      exact absurd (Nat.lt_of_lt_of_le hlt (Nat.le_trans (Nat.le_add_right _ 2) h1)) (Nat.lt_irrefl _)
  cases hf : codeAmong pos ps.toList with
  | none =>
    refine wpAny_genexprCodeX hcode (cd.code hPs htr) (cd.tab hPs) hf fun c' h' tk hx hge hlt hco' _ htab' _ => ?_
    obtain ⟨o1, vs, f1, tf, fl, tg, inF, tx, tt, op, _, _, _, _, _, _, _, _, _, htr', _⟩ := hco'
    exact cont _ h' tk _ hx (Nat.le_trans hge (Nat.le_of_lt hlt)) htab'.2 ⟨_, rfl⟩ htr'
  | some cv =>
    refine wpAny_genexprCode_hit hcode (cd.code hPs htr) hf ?_
    exact cont cv s2.heap s2.toks ps (Heap.ExtBut.refl _ _) (Nat.le_refl _) hPs ⟨#[], by simp⟩ htr
end
end Cs

namespace Cs
open PySem PySem.Spec PyProof.Rows L2 GenW
open Sem (wp)
theorem Room.ins {k : Nat} {A : Around} (r : Room (k + 1) A) : Room k A.in1.in1 :=
  ⟨r.hd, by have := r.dp; show A.depth + 3 * k + 5 < _; omega, by have := r.un; show A.units + 1 + 1 + 16 * k + 200 < _; omega⟩
theorem Room.ins4 {k : Nat} {A : Around} (r : Room (k + 1) A) : Room k A.in1.in1.in1.in1 :=
  ⟨r.hd, by have := r.dp; show A.depth + 3 * k + 5 < _; omega, by have := r.un; show A.units + 1 + 1 + 1 + 1 + 16 * k + 200 < _; omega⟩
section
variable {X : Cx} {pins : List (Addr × Obj)} {σ : L2.St} {H H5 : Hp} {s s' sA : Shared} {S : Option Addr} {CO : List V → Obj → Prop} {a : Addr} {g : Nat} {fp : List Addr} {ys : List V} {E : Eat} {Qe : List V → Hp → Prop}
theorem Out.back (O : Out X S CO a g sA H5 fp ys H s) (I : Inv X pins σ H5 sA) (hf : ∀ b ∈ fp, FpOk X pins H5 b) : Inv X pins σ H s :=
  I.call' (ch := fp) O.os O.un O.hok O.bare fun b hb => ⟨(hf b hb).2.2.2.1, (hf b hb).2.1, (hf b hb).2.2.2.2.1, (hf b hb).2.2.2.2.2⟩
theorem Out.kept (O : Out X S CO a g sA H5 fp ys H s) (os : s'.os = s.os) (hb : AllBare s'.gens) (kp : ∀ b o, s.heap.get? b = some o → s'.heap.get? b = some o) : Out X S CO a g sA H5 fp ys H s' :=
  ⟨os.trans O.os, hb, O.lim.keeps kp, O.gen.keeps kp, O.un.trans (Un.kept kp), O.hok.kept kp, fun b e => let ⟨h1, o, h2, h3⟩ := O.own b e; ⟨h1, o, kp _ _ h2, h3⟩⟩
/-- one step of the consumer: the next item -/
theorem next_gen {A : Around} {gs : GenState} {n : Nat} {Ex : Value → Shared → Prop} {Q : Option Value → Shared → Prop} (hh : A.handled = none) (hl : s.heap.NoLimit) (hd : A.depth < recursionLimit) (hg : s.heap.IsGen a g) (hgs : s.gens[g]? = some gs)
    (hgo : gs.Goes (model X.prog X.w) A.in1 (RG X S CO Qe a g sA H5 fp) (YG X S CO E a g sA H5 fp) n (.send .none) (s.setGen g .running))
    (hitem : ∀ v y ys H s1 gs', gs'.bare = true → g < s1.gens.size → RelV y v → Out X S CO a g sA H5 fp ys H s1 → (∀ b o, S = some b → s.heap.get? b = some o → s1.heap.get? b = some o) →
      E ys y H (∃ m, n = m + 1 ∧ ∀ s', Nap S CO (ys ++ [y]) (s1.setGen g gs') s' → s'.gens[g]? = some gs' → s'.gens[g]? = some gs' ∧ gs'.Goes (model X.prog X.w) A.in1 (RG X S CO Qe a g sA H5 fp) (YG X S CO E a g sA H5 fp) m (.send .none) (s'.setGen g .running)) →
      (s1.setGen g gs').gens[g]? = some gs' → Q (some v) (s1.setGen g gs'))
    (hend : ∀ ys H s1, Out X S CO a g sA H5 fp ys H s1 → (∀ b o, S = some b → s.heap.get? b = some o → s1.heap.get? b = some o) → Qe ys H → Q none s1) (hE : EatMono E) (hnone : n = 0 → ∀ ys y v H s1 (C : Prop), RelV y v → E ys y H C → AllBare s1.gens → (∀ b, S = some b → ∃ o, s1.heap.get? b = some o ∧ CO ys o) → ∃ s', Nap S CO (ys ++ [y]) s1 s') :
    wpAny (model X.prog X.w) A (pyNext (.ref a)) Q Ex s := by
  have hgl : g < s.gens.size := (Array.getElem?_eq_some_iff.mp hgs).1
  refine wpAny_gsz (n := g + 1) hgl (next_genG hh hl hd hg hgs hgo (fun v s1 gs' hb hv => ?_) (fun s1 hp h' hk => ?_) fun e s1 he => he.elim)
  · intro hsz
    have hsz1 : g < s1.gens.size := by
      have q : (s1.setGen g gs').gens.size = s1.gens.size := setGen_size _ _ _
      have hsz' : g + 1 ≤ (s1.setGen g gs').gens.size := hsz
      omega
    obtain ⟨hsm, ys, y, H, r, O, e⟩ := hv
    refine hitem v y ys H s1 gs' hb hsz1 r O hsm (hE _ _ _ _ _ (fun c => ?_) e) (setGen_at hsz1)
    cases n with
    | zero =>
      obtain ⟨s', nap⟩ := hnone rfl ys y v H s1 _ r e O.bare (fun b e => (O.own b e).2)
      exact (c s' nap).elim
    | succ m =>
      refine ⟨m, rfl, fun s' nap hg' => ⟨hg', c _ ⟨nap.os, allBare_setGen nap.bare rfl, nap.keep, nap.own⟩⟩⟩
  · intro hsz
    obtain ⟨hsm, ys, H, O, q⟩ := hp
    exact hend ys H _ (O.kept rfl (allBare_setGen O.bare rfl) hk) (fun b o e e2 => hk _ _ (hsm b o e e2)) q
/-- all, any of bools: F behind the first false (true) one -/
abbrev eatB (stop : Bool) (F : Hp → Prop) : Eat := fun _ y H c => ∃ b, y = .bl b ∧ if b = stop then F H else c
theorem eatB_mono (stop : Bool) (F : Hp → Prop) : EatMono (eatB stop F) := fun ys y H c d cd ⟨b, e, h⟩ => ⟨b, e, by
  by_cases hb : b = stop
  · rw [if_pos hb] at h ⊢; exact h
  · rw [if_neg hb] at h ⊢; exact cd h⟩
theorem nap0 {CO : List V → Obj → Prop} (hb : AllBare s.gens) : Nap none CO ys s s := ⟨rfl, hb, fun _ _ _ e => e, fun _ e => nomatch e⟩
theorem all_loopG {A : Around} {Ft : Hp → Prop} {R : Result → Shared → Prop} {CO : List V → Obj → Prop} (hh : A.handled = none) (hd : A.depth < recursionLimit)
    (hend : ∀ ys H s1, Out X none CO a g sA H5 fp ys H s1 → Qe ys H → R (.ok (.ret (.bool true))) s1) (hstop : ∀ ys H s1, Out X none CO a g sA H5 fp ys H s1 → Ft H → R (.ok (.ret (.bool false))) s1) :
    ∀ (n : Nat) (s : Shared) (gs : GenState), s.heap.NoLimit → s.heap.IsGen a g → s.gens[g]? = some gs → gs.Goes (model X.prog X.w) A.in1.in1 (RG X none CO Qe a g sA H5 fp) (YG X none CO (eatB false Ft) a g sA H5 fp) n (.send .none) (s.setGen g .running) →
      codeAny (model X.prog X.w) A (.builtin "all.loop" ⟨[.ref a], []⟩) R s := by
  intro n
  induction n with
  | zero =>
    intro s gs hl hg hgs hgo
    refine codeAny_builtin PySem.F.entry_all_loop ?_
    rw [Around.under_plainId PySem.F.plain_all_loop _]
    show wpAny _ A.in1 (pyNext (.ref a) >>= _) _ _ s
    refine wpAny_bind (next_gen (A := A.in1) hh hl hd hg hgs hgo (fun v y ys H s1 gs' hb hsz r O hsm e hg' => ?_) (fun ys H s1 O hsm q => ?_) (eatB_mono _ _) fun _ ys y v _ s1 _ _ _ hb _ => ⟨s1, nap0 hb⟩)
    · obtain ⟨b, rfl, e⟩ := e
      cases r
      refine wpAny_bind (wpAny_holding (wpAny_truthy_bool (wpAny_bind (wpAny_letGo ?_))))
      cases b with
      | true => obtain ⟨m, h, _⟩ := e; cases h
      | false => exact wpAny_bind (wpAny_rule (wpAny_pure (hstop ys H _ (O.kept rfl (allBare_setGen O.bare hb) fun _ _ z => z) e)))
    · exact wpAny_bind (wpAny_rule (wpAny_pure (hend ys H s1 O q)))
  | succ n ih =>
    intro s gs hl hg hgs hgo
    refine codeAny_builtin PySem.F.entry_all_loop ?_
    rw [Around.under_plainId PySem.F.plain_all_loop _]
    show wpAny _ A.in1 (pyNext (.ref a) >>= _) _ _ s
    refine wpAny_bind (next_gen (A := A.in1) hh hl hd hg hgs hgo (fun v y ys H s1 gs' hb hsz r O hsm e hg' => ?_) (fun ys H s1 O hsm q => ?_) (eatB_mono _ _) fun h => nomatch h)
    · obtain ⟨b, rfl, e⟩ := e
      cases r
      refine wpAny_bind (wpAny_holding (wpAny_truthy_bool (wpAny_bind (wpAny_letGo ?_))))
      have O' := O.kept (s' := s1.setGen g gs') rfl (allBare_setGen O.bare hb) fun _ _ z => z
      cases b with
      | true =>
        obtain ⟨m, h, e⟩ := e
        cases h
        exact wpAny_pure ⟨plainId_quiet PySem.F.plain_all_loop _, ih _ gs' O'.lim O'.gen hg' (e _ (nap0 O'.bare) hg').2⟩
      | false => exact wpAny_bind (wpAny_rule (wpAny_pure (hstop ys H _ O' e)))
    · exact wpAny_bind (wpAny_rule (wpAny_pure (hend ys H s1 O q)))
theorem any_loopG {A : Around} {Ft : Hp → Prop} {R : Result → Shared → Prop} {CO : List V → Obj → Prop} (hh : A.handled = none) (hd : A.depth < recursionLimit)
    (hend : ∀ ys H s1, Out X none CO a g sA H5 fp ys H s1 → Qe ys H → R (.ok (.ret (.bool false))) s1) (hstop : ∀ ys H s1, Out X none CO a g sA H5 fp ys H s1 → Ft H → R (.ok (.ret (.bool true))) s1) :
    ∀ (n : Nat) (s : Shared) (gs : GenState), s.heap.NoLimit → s.heap.IsGen a g → s.gens[g]? = some gs → gs.Goes (model X.prog X.w) A.in1.in1 (RG X none CO Qe a g sA H5 fp) (YG X none CO (eatB true Ft) a g sA H5 fp) n (.send .none) (s.setGen g .running) →
      codeAny (model X.prog X.w) A (.builtin "any.loop" ⟨[.ref a], []⟩) R s := by
  intro n
  induction n with
  | zero =>
    intro s gs hl hg hgs hgo
    refine codeAny_builtin PySem.F.entry_any_loop ?_
    rw [Around.under_plainId PySem.F.plain_any_loop _]
    show wpAny _ A.in1 (pyNext (.ref a) >>= _) _ _ s
    refine wpAny_bind (next_gen (A := A.in1) hh hl hd hg hgs hgo (fun v y ys H s1 gs' hb hsz r O hsm e hg' => ?_) (fun ys H s1 O hsm q => ?_) (eatB_mono _ _) fun _ ys y v _ s1 _ _ _ hb _ => ⟨s1, nap0 hb⟩)
    · obtain ⟨b, rfl, e⟩ := e
      cases r
      refine wpAny_bind (wpAny_holding (wpAny_truthy_bool (wpAny_bind (wpAny_letGo ?_))))
      cases b with
      | false => obtain ⟨m, h, _⟩ := e; cases h
      | true => exact wpAny_bind (wpAny_rule (wpAny_pure (hstop ys H _ (O.kept rfl (allBare_setGen O.bare hb) fun _ _ z => z) e)))
    · exact wpAny_bind (wpAny_rule (wpAny_pure (hend ys H s1 O q)))
  | succ n ih =>
    intro s gs hl hg hgs hgo
    refine codeAny_builtin PySem.F.entry_any_loop ?_
    rw [Around.under_plainId PySem.F.plain_any_loop _]
    show wpAny _ A.in1 (pyNext (.ref a) >>= _) _ _ s
    refine wpAny_bind (next_gen (A := A.in1) hh hl hd hg hgs hgo (fun v y ys H s1 gs' hb hsz r O hsm e hg' => ?_) (fun ys H s1 O hsm q => ?_) (eatB_mono _ _) fun h => nomatch h)
    · obtain ⟨b, rfl, e⟩ := e
      cases r
      refine wpAny_bind (wpAny_holding (wpAny_truthy_bool (wpAny_bind (wpAny_letGo ?_))))
      have O' := O.kept (s' := s1.setGen g gs') rfl (allBare_setGen O.bare hb) fun _ _ z => z
      cases b with
      | false =>
        obtain ⟨m, h, e⟩ := e
        cases h
        exact wpAny_pure ⟨plainId_quiet PySem.F.plain_any_loop _, ih _ gs' O'.lim O'.gen hg' (e _ (nap0 O'.bare) hg').2⟩
      | true => exact wpAny_bind (wpAny_rule (wpAny_pure (hstop ys H _ O' e)))
    · exact wpAny_bind (wpAny_rule (wpAny_pure (hend ys H s1 O q)))
/-- all(elt for tg in iter if ..), bools handed out -/
def tAllG (P : Addr) (wi : TI) (g : TG) (tt : L2.TT) (te : TE) (vs : List Nat) : TE := fun σ H Q => tGen P (eatB false fun H' => Q (.bl false) H') (fun _ H' => Q (.bl true) H') wi g tt te vs σ H
theorem pe_allG {c P : Addr} {elt tg iter : Expr} {ifs : List Expr} {scope : Scope} {own : List (Str × Nat)} {p pos gpos : Pos} {wi : TI} {g : TG} {tt : L2.TT} {te : TE} {k : Nat}
    (hr : Room (k + 2) X.A) (hgl : Gl X "all") (hm : X.mg "all" = none) (hc : X.calm = true) (hN : X.N.Nodup) (TB : GxR.TabB X.base X.mg c P) (hcode : X.env.code = .ref c) (S : GSc X.N X.env.scope scope own) (hi : PI X tg iter wi)
    (hg : ∀ (Ag : Around) (s : Shared) (H : Hp) (cl : List (Str × Addr)) (C : Addr) (code : Value) (fp : List Addr) (pn : List (Addr × Obj)), Room k Ag → PG (gcx X Ag s H scope cl C code fp pn) tg g)
    (ht : ∀ (Ag : Around) (s : Shared) (H : Hp) (cl : List (Str × Addr)) (C : Addr) (code : Value) (fp : List Addr) (pn : List (Addr × Obj)), Room k Ag → PTs (gcx X Ag s H scope cl C code fp pn) ifs tt)
    (he : ∀ (Ag : Around) (s : Shared) (H : Hp) (cl : List (Str × Addr)) (C : Addr) (code : Value) (fp : List Addr) (pn : List (Addr × Obj)), Room k Ag → PE (gcx X Ag s H scope cl C code fp pn) elt te)
    (hs : ∀ v, genFold iter X.env v = pure v := by intro _; rfl) (hb : bootBuiltins "all" = some (.builtin "all") := by decide +kernel)
    (hst : starEach [.GeneratorExp elt [⟨tg, iter, ifs, 0⟩] scope gpos] X.env = (false, eval (.GeneratorExp elt [⟨tg, iter, ifs, 0⟩] scope gpos) X.env) :: starEach [] X.env := by rfl) :
    PE X (.Call (.Name "all" p) [.GeneratorExp elt [⟨tg, iter, ifs, 0⟩] scope gpos] [] pos) (tAllG P wi g tt te (own.map (·.2))) := by
  refine ⟨fun pins s σ H Q I h => ?_⟩
  refine wpAny_Call_Name_kw (ld_blt I hgl hm hb ?_)
  refine PyProof.Rows.callWith_builtin1 ?_ hst (by rfl)
  rw [hst]
  show wpAny _ _ (spliced ((false, eval (.GeneratorExp elt [⟨tg, iter, ifs, 0⟩] scope gpos) X.env) :: backTo pos (starEach [] X.env))) _ _ s
  refine Calls.spliced_cons (thn (gen_make (hr.mono (by omega)) hc hN TB hcode S hi hg ht he hs (eatB_mono _ _) I h) fun u s5 hG => ?_)
  refine Calls.spliced_nil ?_
  obtain ⟨a, gg, cc, H5, fp, sA, n, rfl, I5, hf, h1, h2, h3, h4, h5, h6, h7, h8, wake⟩ := hG
  refine call_function_tree PySem.F.kind_all PySem.F.plain_all PySem.F.entry_all (PySem.F.args_all1 _) ?_
  unfold Builtin.«all»
  refine wpAny_bind (m := oneArg "all" _) (wpAny_pure ?_)
  refine wpAny_bind (wpAny_pyIter_gen h3 ?_)
  refine wpAny_pure ⟨plainId_quiet PySem.F.plain_all_loop _, all_loopG (X := X) (CO := fun _ _ => True) (Ft := fun H' => Q (.bl false) H') (H5 := H5) (sA := sA) (fp := fp) (Qe := fun _ H' => Q (.bl true) H') hr.hd (by have := hr.dp; omega) (fun ys H' s1 O q => ?_) (fun ys H' s1 O q => ?_) n s5 _ h7 h3 h4 ⟨rfl, ?_⟩⟩
  · exact ⟨.bl true, H', O.back I5 hf, rfl, q⟩
  · exact ⟨.bl false, H', O.back I5 hf, rfl, q⟩
  · exact wake X.A.in1.in1 none (fun _ _ => True) _ (Room.ins hr) I5.ok.frames (fun b e => nomatch e) (fun _ _ e => e) rfl (allBare_setGen h6 rfl)
/-- any(elt for tg in iter if ..), bools handed out -/
def tAnyG (P : Addr) (wi : TI) (g : TG) (tt : L2.TT) (te : TE) (vs : List Nat) : TE := fun σ H Q => tGen P (eatB true fun H' => Q (.bl true) H') (fun _ H' => Q (.bl false) H') wi g tt te vs σ H
theorem pe_anyG {c P : Addr} {elt tg iter : Expr} {ifs : List Expr} {scope : Scope} {own : List (Str × Nat)} {p pos gpos : Pos} {wi : TI} {g : TG} {tt : L2.TT} {te : TE} {k : Nat}
    (hr : Room (k + 2) X.A) (hgl : Gl X "any") (hm : X.mg "any" = none) (hc : X.calm = true) (hN : X.N.Nodup) (TB : GxR.TabB X.base X.mg c P) (hcode : X.env.code = .ref c) (S : GSc X.N X.env.scope scope own) (hi : PI X tg iter wi)
    (hg : ∀ (Ag : Around) (s : Shared) (H : Hp) (cl : List (Str × Addr)) (C : Addr) (code : Value) (fp : List Addr) (pn : List (Addr × Obj)), Room k Ag → PG (gcx X Ag s H scope cl C code fp pn) tg g)
    (ht : ∀ (Ag : Around) (s : Shared) (H : Hp) (cl : List (Str × Addr)) (C : Addr) (code : Value) (fp : List Addr) (pn : List (Addr × Obj)), Room k Ag → PTs (gcx X Ag s H scope cl C code fp pn) ifs tt)
    (he : ∀ (Ag : Around) (s : Shared) (H : Hp) (cl : List (Str × Addr)) (C : Addr) (code : Value) (fp : List Addr) (pn : List (Addr × Obj)), Room k Ag → PE (gcx X Ag s H scope cl C code fp pn) elt te)
    (hs : ∀ v, genFold iter X.env v = pure v := by intro _; rfl) (hb : bootBuiltins "any" = some (.builtin "any") := by decide +kernel)
    (hst : starEach [.GeneratorExp elt [⟨tg, iter, ifs, 0⟩] scope gpos] X.env = (false, eval (.GeneratorExp elt [⟨tg, iter, ifs, 0⟩] scope gpos) X.env) :: starEach [] X.env := by rfl) :
    PE X (.Call (.Name "any" p) [.GeneratorExp elt [⟨tg, iter, ifs, 0⟩] scope gpos] [] pos) (tAnyG P wi g tt te (own.map (·.2))) := by
  refine ⟨fun pins s σ H Q I h => ?_⟩
  refine wpAny_Call_Name_kw (ld_blt I hgl hm hb ?_)
  refine PyProof.Rows.callWith_builtin1 ?_ hst (by rfl)
  rw [hst]
  show wpAny _ _ (spliced ((false, eval (.GeneratorExp elt [⟨tg, iter, ifs, 0⟩] scope gpos) X.env) :: backTo pos (starEach [] X.env))) _ _ s
  refine Calls.spliced_cons (thn (gen_make (hr.mono (by omega)) hc hN TB hcode S hi hg ht he hs (eatB_mono _ _) I h) fun u s5 hG => ?_)
  refine Calls.spliced_nil ?_
  obtain ⟨a, gg, cc, H5, fp, sA, n, rfl, I5, hf, h1, h2, h3, h4, h5, h6, h7, h8, wake⟩ := hG
  refine call_function_tree PySem.F.kind_any PySem.F.plain_any PySem.F.entry_any (PySem.F.args_any1 _) ?_
  unfold Builtin.«any»
  refine wpAny_bind (m := oneArg "any" _) (wpAny_pure ?_)
  refine wpAny_bind (wpAny_pyIter_gen h3 ?_)
  refine wpAny_pure ⟨plainId_quiet PySem.F.plain_any_loop _, any_loopG (X := X) (CO := fun _ _ => True) (Ft := fun H' => Q (.bl true) H') (H5 := H5) (sA := sA) (fp := fp) (Qe := fun _ H' => Q (.bl false) H') hr.hd (by have := hr.dp; omega) (fun ys H' s1 O q => ?_) (fun ys H' s1 O q => ?_) n s5 _ h7 h3 h4 ⟨rfl, ?_⟩⟩
  · exact ⟨.bl false, H', O.back I5 hf, rfl, q⟩
  · exact ⟨.bl true, H', O.back I5 hf, rfl, q⟩
  · exact wake X.A.in1.in1 none (fun _ _ => True) _ (Room.ins hr) I5.ok.frames (fun b e => nomatch e) (fun _ _ e => e) rfl (allBare_setGen h6 rfl)
/-- a list that the items go to -/
def CoL : List V → Obj → Prop := fun ys o => ∃ acc c, o = lstObj acc c ∧ Vals ys acc.toList
abbrev eatL : Eat := fun ys _ _ c => ys.length < sizeLine ∧ c
theorem eatL_mono : EatMono eatL := fun ys y H c d cd ⟨h, e⟩ => ⟨h, cd e⟩
theorem nap_push {S : Addr} {acc : Array Value} {c : Nat} {y : V} {v : Value} (hb : AllBare s.gens) (hS : s.heap.get? S = some (lstObj acc c)) (hv : Vals ys acc.toList) (r : RelV y v) :
    Nap (some S) CoL (ys ++ [y]) s { s with heap := s.heap.update S (Obj.mapSeq (·.push v)) } := by
  refine ⟨rfl, hb, fun b o hne e => (Heap.get?_update_other _ _ (fun h => hne (by rw [h]))).trans e, fun b e => ?_⟩
  cases e
  refine ⟨_, Heap.get?_update_self _ hS rfl, ⟨acc.push v, _, rfl, ?_⟩, fun v e => nomatch e⟩
  rw [Array.toList_push]
  exact hv.append (.cons r .nil)
theorem extend_loopG {A : Around} {R : Result → Shared → Prop} {S : Addr} {res : Value} (hh : A.handled = none) (hd : A.depth < recursionLimit) (hSa : S ≠ a) (hSc : S ≠ cStatics)
    (hend : ∀ ys H s1 acc c, Out X (some S) CoL a g sA H5 fp ys H s1 → s1.heap.get? S = some (lstObj acc c) → Vals ys acc.toList → Qe ys H → R (.ok (.ret res)) s1) :
    ∀ (n : Nat) (s : Shared) (gs : GenState), s.heap.NoLimit → s.heap.IsGen a g → s.gens[g]? = some gs → gs.Goes (model X.prog X.w) A.in1.in1 (RG X (some S) CoL Qe a g sA H5 fp) (YG X (some S) CoL eatL a g sA H5 fp) n (.send .none) (s.setGen g .running) →
      codeAny (model X.prog X.w) A (.builtin "list.extend.loop" ⟨[.ref S, .ref a, res], []⟩) R s := by
  intro n
  have own : ∀ {ys : List V} {H : Hp} {s1 : Shared}, Out X (some S) CoL a g sA H5 fp ys H s1 → ∃ acc c, s1.heap.get? S = some (lstObj acc c) ∧ Vals ys acc.toList := fun {ys H s1} O => by
    obtain ⟨_, o, h2, acc, c, rfl, h3⟩ := O.own S rfl
    exact ⟨acc, c, h2, h3⟩
  induction n with
  | zero =>
    intro s gs hl hg hgs hgo
    refine codeAny_builtin PySem.F.entry_extend_loop ?_
    rw [Around.under_plainId PySem.F.plain_extend_loop _]
    show wpAny _ A.in1 (pyNext (.ref a) >>= _) _ _ s
    refine wpAny_bind (next_gen (A := A.in1) hh hl hd hg hgs hgo (fun v y ys H s1 gs' hb hsz r O hsm e hg' => ?_) (fun ys H s1 O hsm q => ?_) eatL_mono fun _ ys y v _ s1 _ r _ hb ho => ?_)
    · obtain ⟨_, m, h, _⟩ := e; cases h
    · obtain ⟨acc, c, h1, h2⟩ := own O
      exact wpAny_pure (hend ys H s1 acc c O h1 h2 q)
    · obtain ⟨o, h1, acc, c, rfl, h2⟩ := ho S rfl
      exact ⟨_, nap_push hb h1 h2 r⟩
  | succ n ih =>
    intro s gs hl hg hgs hgo
    refine codeAny_builtin PySem.F.entry_extend_loop ?_
    rw [Around.under_plainId PySem.F.plain_extend_loop _]
    show wpAny _ A.in1 (pyNext (.ref a) >>= _) _ _ s
    refine wpAny_bind (next_gen (A := A.in1) hh hl hd hg hgs hgo (fun v y ys H s1 gs' hb hsz r O hsm e hg' => ?_) (fun ys H s1 O hsm q => ?_) eatL_mono fun h => nomatch h)
    · obtain ⟨hlen, m, h, e⟩ := e
      cases h
      have O' := O.kept (s' := s1.setGen g gs') rfl (allBare_setGen O.bare hb) fun _ _ z => z
      obtain ⟨acc, c, h1, h2⟩ := own O'
      have hasz : acc.size < sizeLine := by
        have e1 := h2.length
        have e2 : acc.toList.length = acc.size := by simp
        omega
      have nap := nap_push O'.bare h1 h2 r
      show wpAny _ A.in1 (updateSeq S (·.push v) >>= _) _ _ _
      refine wpAny_bind ?_
      refine wpAny_updateSeq h1 rfl (wpAny_pure ⟨plainId_quiet PySem.F.plain_extend_loop _, ?_⟩) (Nat.le_of_lt hasz) (by show (acc.push v).size ≤ sizeLine + 1; rw [Array.size_push]; omega)
      have kpn : ∀ b o, b ≠ S → s1.heap.get? b = some o → (s1.heap.update S (Obj.mapSeq (·.push v))).get? b = some o := fun b o hbS e => (Heap.get?_update_other _ _ (Ne.symm hbS)).trans e
      refine ih _ gs' ?_ ?_ hg' (e _ nap hg').2
      · obtain ⟨mc, hns, hnn⟩ := O'.lim
        exact ⟨mc, hns.at' fun o e => kpn _ o (Ne.symm hSc) e, hnn⟩
      · obtain ⟨o, nm, qn, ho, r⟩ := O'.gen
        exact ⟨o, nm, qn, kpn a o (Ne.symm hSa) ho, r⟩
    · obtain ⟨acc, c, h1, h2⟩ := own O
      exact wpAny_pure (hend ys H s1 acc c O h1 h2 q)
/-- all items of a generator -/
theorem collect_gen {A : Around} {k n : Nat} {c : Code} {Ex : Value → Shared → Prop} {Q : List Value → Shared → Prop} (hr : Room (k + 1) A.in1.in1) (hfr : A.frames = some X.stack) (hlt : sA.heap.objs.size ≤ a) (ha : a < s.heap.objs.size) (hg : s.heap.IsGen a g) (hgs : s.gens[g]? = some (.fresh c)) (hb : AllBare s.gens) (hl : s.heap.NoLimit)
    (wake : ∀ (Aw : Around) (S : Option Addr) (CO : List V → Obj → Prop) (s2 : Shared), Room (k + 1) Aw → Aw.frames = some X.stack → (∀ b, S = some b → s.heap.objs.size ≤ b ∧ ∃ o, s2.heap.get? b = some o ∧ CO [] o ∧ ∀ v, o.data ≠ .cell v) →
      (∀ b o, s.heap.get? b = some o → s2.heap.get? b = some o) → s2.os = s.os → AllBare s2.gens →
      Seg (model X.prog X.w) Aw (RG X S CO Qe a g sA H5 fp) (YG X S CO eatL a g sA H5 fp) n s2 c ((model X.prog X.w).den c) [] s2)
    (hQ : ∀ ys H s1 S acc cc, s.heap.objs.size ≤ S → Out X (some S) CoL a g sA H5 fp ys H s1 → s1.heap.get? S = some (lstObj acc cc) → Vals ys acc.toList → Qe ys H → Q acc.toList s1) :
    wpAny (model X.prog X.w) A (collect (.ref a)) Q Ex s := by
  have hSa : s.heap.objs.size ≠ a := Nat.ne_of_gt ha
  have hcl : cStatics < s.heap.objs.size := let ⟨_, hn, _⟩ := hl; hn.lt
  have hSc : s.heap.objs.size ≠ cStatics := Nat.ne_of_gt hcl
  unfold collect
  refine wpAny_bind (wpAny_runValue (codeAny_builtin PySem.F.entry_proto_collect ?_))
  rw [Around.under_plainId PySem.F.plain_proto_collect _]
  show wpAny _ A.in1 (newList [] >>= fun l => again (.builtin "list.__iadd__" ⟨[l, .ref a], []⟩)) _ _ s
  refine wpAny_bind (wpAny_newObj_type ?_)
  refine wpAny_pure ⟨plainId_quiet PySem.F.plain_list_iadd _, codeAny_builtin PySem.F.entry_list_iadd ?_⟩
  rw [Around.under_plainId PySem.F.plain_list_iadd _]
  have hS : (s.heap.push { cls := .type "list", data := .seq ([] : List Value).toArray }).get? s.heap.objs.size = some { cls := .type "list", data := .seq ([] : List Value).toArray } := Heap.get?_push_size _ rfl
  have k1 : ∀ b o, s.heap.get? b = some o → (s.heap.push { cls := .type "list", data := .seq ([] : List Value).toArray }).get? b = some o := fun b o e => Heap.get?_push_of_some _ e
  have up : ∀ (h : Heap) (f : Obj → Obj), (∀ b o, s.heap.get? b = some o → h.get? b = some o) → ∀ b o, s.heap.get? b = some o → (h.update s.heap.objs.size f).get? b = some o := fun h f q b o e =>
    (Heap.get?_update_other _ _ (Ne.symm (Nat.ne_of_lt (Heap.lt_size e)))).trans (q b o e)
  have gty : ∀ {h : Heap}, (∀ b o, s.heap.get? b = some o → h.get? b = some o) → h.IsGen a g := fun {h} q => hg.keeps q
  show wpAny _ A.in1 (Builtin.List.listExtendWith (.ref s.heap.objs.size) (.ref a) (.ref s.heap.objs.size)) _ _ _
  unfold Builtin.List.listExtendWith
  refine wpAny_bind (wpAny_typeOf (Heap.IsGen.typeIs (s := { s with heap := _ }) (gty k1)) ?_)
  have h1 : Builtin.List.listSameRef (.ref s.heap.objs.size) (.ref a) = false := by simp [Builtin.List.listSameRef, hSa]
  have h2 : (Value.type "generator" == Value.type "list") = false := by decide
  have h3 : (Value.type "generator" == Value.type "tuple") = false := by decide
  simp only [h1, h2, h3, Bool.or_false, Bool.false_eq_true, if_false]
  refine wpAny_bind (wpAny_pyIter_gen (s := { s with heap := _ }) (gty k1) ?_)
  refine wpAny_bind (wpAny_holding ?_)
  unfold Builtin.List.listLengthHint
  refine wpAny_bind (wpAny_specialOf (Heap.IsGen.typeIs (s := { s with heap := _ }) (gty k1)) PySem.F.gen_no_len ?_)
  show wpAny _ A.in1 (specialOf (Value.ref a) (Str.ofString "__length_hint__") >>= _) _ _ _
  refine wpAny_bind (wpAny_specialOf (Heap.IsGen.typeIs (s := { s with heap := _ }) (gty k1)) PySem.F.gen_no_hint ?_)
  refine wpAny_pure ?_
  show wpAny _ A.in1 (rule "list.extend.makes-room" >>= fun _ => Builtin.List.listTouch (.ref s.heap.objs.size) >>= fun _ =>
    again (.builtin "list.extend.loop" ⟨[.ref s.heap.objs.size, .ref a, .ref s.heap.objs.size], []⟩)) _ _ _
  refine wpAny_bind (wpAny_rule ?_)
  refine wpAny_bind ?_
  show wpAny _ A.in1 (updateSeq s.heap.objs.size (·.push .none) >>= fun _ => updateSeq s.heap.objs.size (·.pop)) _ _ _
  refine wpAny_bind (wpAny_updateSeq hS rfl ?_)
  have hS3 := Heap.get?_update_self (Obj.mapSeq (·.push Value.none)) hS rfl
  refine wpAny_updateSeq (hz := by seq_fits) hS3 rfl ?_
  have hS4 := Heap.get?_update_self (Obj.mapSeq (·.pop)) hS3 rfl
  have k4 := up _ (Obj.mapSeq (·.pop)) (up _ (Obj.mapSeq (·.push Value.none)) k1)
  refine wpAny_pure ⟨plainId_quiet PySem.F.plain_extend_loop _, ?_⟩
  refine extend_loopG (X := X) (sA := sA) (H5 := H5) (fp := fp) (Qe := Qe) (show A.handled = none from hr.hd) (by have h : A.depth + 3 * (k + 1) + 5 < recursionLimit := hr.dp; show A.depth < _; omega) hSa hSc (fun ys H s1 acc cc O e1 e2 q => ?_) n _ _ (hl.keeps k4) (gty k4) hgs ⟨rfl, ?_⟩
  · show wpAny _ A (load s.heap.objs.size >>= _) _ _ s1
    refine wpAny_bind (wpAny_load e1 ?_)
    exact wpAny_pure (hQ ys H s1 _ acc cc (Nat.le_refl _) O e1 e2 q)
  · exact wake A.in1.in1 (some s.heap.objs.size) CoL _ hr hfr (fun b e => by cases e; exact ⟨Nat.le_refl _, _, hS4, ⟨#[], _, rfl, .nil⟩, fun v e => nomatch e⟩) k4 rfl (allBare_setGen (s := { s with heap := _ }) hb rfl)
end
end Cs
namespace Cs
open PySem PySem.Spec PyProof.Rows L2 GenW
open Sem (wp)
open AutoSeq1 (wpAny_loadPart')
/-- tuple(..) of a generator, by what is to hold of its list -/
theorem code_tuple_gen {P : Program} {w : World} {A : Around} {Ex : Value → Shared → Prop} {s : Shared} {a : Addr} {g : Nat} {Q₁ : Value → Shared → Prop} (hg : s.heap.IsGen a g)
    (hcol : wpAny (model P w) A.in1 (collect (.ref a)) (fun l s' => l.length ≤ sizeLine ∧ Q₁ (.ref s'.heap.objs.size) { s' with heap := s'.heap.push { cls := .type "tuple", data := .seq l.toArray } }) Ex s) :
    codeAny (model P w) A (.call (.builtin "tuple.__new__") ⟨[.type "tuple", .ref a], []⟩) (wants Q₁ Ex) s := by
  refine codeAny_of_tree ?_
  show wpAny _ A.in1 (do checkBuiltinCall "tuple.__new__" ⟨[.type "tuple", .ref a], []⟩; again (.builtin "tuple.__new__" ⟨[.type "tuple", .ref a], []⟩)) _ _ s
  refine wpAny_bind (wpAny_of_eq (PySem.F.newCall_tuple_1 _) (wpAny_pure ⟨plainId_quiet PySem.F.plain_tuple_new _, codeAny_builtin PySem.F.entry_tuple_new ?_⟩))
  rw [Around.under_plainId PySem.F.plain_tuple_new _]
  have hsub := sub_tuple_self
  have hinit := init_tuple_lookup
  have hmh := madeHere_tuple
  have hTI := hg.typeIs
  have hcol' : ∀ (Q : List Value → Shared → Prop) (E : Value → Shared → Prop), (∀ e s', Ex e s' → E e s') → (∀ l s', (l.length ≤ sizeLine ∧ Q₁ (.ref s'.heap.objs.size) { s' with heap := s'.heap.push { cls := .type "tuple", data := .seq l.toArray } }) → Q l s') → wpAny (model P w) A.in1 (collect (.ref a)) Q E s := fun Q E h2 h1 => wpAny_mono hcol h1 h2
  wp_walk using wpAny_typeOf hTI, hcol' _ _ (fun _ _ h => h)
  intro l s' ⟨hz, hq⟩
  show wpAny _ _ (Builtin.Tuple.tupleExact l.toArray >>= fun v => ret v) _ _ _
  unfold Builtin.Tuple.tupleExact
  refine wpAny_bind (wpAny_newObj_type ?_ (by show l.toArray.size ≤ sizeLine; rw [List.size_toArray]; exact hz))
  exact wpAny_pure hq
section
variable {X : Cx}
/-- tuple(elt for tg in iter if ..) -/
def tTupG (P : Addr) (wi : TI) (g : TG) (tt : L2.TT) (te : TE) (vs : List Nat) : TE := fun σ H Q => tGen P eatL (fun ys H' => ys.length ≤ sizeLine ∧ ∀ p, H' p = none → Q (.ref p) (upd H' p (.tup ys))) wi g tt te vs σ H
theorem pe_tupG {c P : Addr} {elt tg iter : Expr} {ifs : List Expr} {scope : Scope} {own : List (Str × Nat)} {p pos gpos : Pos} {wi : TI} {g : TG} {tt : L2.TT} {te : TE} {k : Nat}
    (hr : Room (k + 2) X.A) (hgl : Gl X "tuple") (hm : X.mg "tuple" = none) (hc : X.calm = true) (hN : X.N.Nodup) (TB : GxR.TabB X.base X.mg c P) (hcode : X.env.code = .ref c) (S : GSc X.N X.env.scope scope own) (hi : PI X tg iter wi)
    (hg : ∀ (Ag : Around) (s : Shared) (H : Hp) (cl : List (Str × Addr)) (C : Addr) (code : Value) (fp : List Addr) (pn : List (Addr × Obj)), Room k Ag → PG (gcx X Ag s H scope cl C code fp pn) tg g)
    (ht : ∀ (Ag : Around) (s : Shared) (H : Hp) (cl : List (Str × Addr)) (C : Addr) (code : Value) (fp : List Addr) (pn : List (Addr × Obj)), Room k Ag → PTs (gcx X Ag s H scope cl C code fp pn) ifs tt)
    (he : ∀ (Ag : Around) (s : Shared) (H : Hp) (cl : List (Str × Addr)) (C : Addr) (code : Value) (fp : List Addr) (pn : List (Addr × Obj)), Room k Ag → PE (gcx X Ag s H scope cl C code fp pn) elt te)
    (hs : ∀ v, genFold iter X.env v = pure v := by intro _; rfl) (hb : bootBuiltins "tuple" = some (.type "tuple") := by decide +kernel)
    (hst : starEach [.GeneratorExp elt [⟨tg, iter, ifs, 0⟩] scope gpos] X.env = (false, eval (.GeneratorExp elt [⟨tg, iter, ifs, 0⟩] scope gpos) X.env) :: starEach [] X.env := by rfl) :
    PE X (.Call (.Name "tuple" p) [.GeneratorExp elt [⟨tg, iter, ifs, 0⟩] scope gpos] [] pos) (tTupG P wi g tt te (own.map (·.2))) := by
  refine ⟨fun pins s σ H Q I h => ?_⟩
  refine wpAny_Call_Name_kw (ld_blt I hgl hm hb ?_)
  refine PyProof.Rows.callWith_type1 ?_ hst rfl
  rw [hst]
  show wpAny _ _ (spliced ((false, eval (.GeneratorExp elt [⟨tg, iter, ifs, 0⟩] scope gpos) X.env) :: backTo pos (starEach [] X.env))) _ _ s
  refine Calls.spliced_cons (thn (gen_make (hr.mono (by omega)) hc hN TB hcode S hi hg ht he hs eatL_mono I h) fun u s5 hG => ?_)
  refine Calls.spliced_nil ?_
  obtain ⟨a, gg, cc, H5, fp, sA, n, rfl, I5, hf, h1, h2, h3, h4, h5, h6, h7, h8, wake⟩ := hG
  refine callType_codes (Q₁ := fun obj s₁ => s₁.TypeIs obj "tuple" ∧ EP X pins σ Q obj s₁) PySem.F.called_tuple (PySem.F.typeCall_tuple_1 _) PySem.F.entry_object_init
    (code_tuple_gen (A := X.A.in1) h3 (collect_gen (k := k) (Room.ins4 hr) I5.ok.frames h1 h2 h3 h4 h6 h7 wake fun ys H' s1 S acc cc hS O e1 e2 ⟨hz, q⟩ => ?_)) fun obj s₁ h₁ => ?_
  · have hl := e2.length
    refine ⟨by omega, ⟨_, Heap.get?_push_size _ rfl, rfl⟩, ?_⟩
    have I1 := O.back I5 hf
    have I2 : Inv X pins σ (upd H' s1.heap.objs.size (.tup ys)) { s1 with heap := s1.heap.push { cls := .type "tuple", data := .seq acc.toList.toArray } } :=
      I1.laid (t' := s1.toks) (fun b o e => Heap.get?_push_of_some _ e) (Nat.le_refl _) (show ObjOk X.prog X.w _ _ _ (.tup ys) from ⟨hz, acc.toList, e2, IsTup.new _ _⟩)
    exact ⟨.ref s1.heap.objs.size, _, I2, rfl, q _ (I1.hok.fresh (Nat.le_refl _))⟩
  · exact ⟨h₁.1, PySem.F.args_object_init_2 obj _, object_init_meets PySem.F.called_tuple.init.lookup PySem.F.called_tuple.made (by decide) X.prog X.w X.A.in1 _ s₁ ⟨h₁.1, rfl, h₁.2⟩⟩
end
end Cs
namespace Cs
open PySem PySem.Spec PyProof.Rows L2 GenW
open Sem (wp)
/-! ### sum of ints -/
def isum (ys : List V) : Int := (ys.map fun v => match v with | .int i => i | _ => 0).sum
theorem isum_snoc (ys : List V) (i : Int) : isum (ys ++ [.int i]) = isum ys + i := by
  unfold isum; rw [List.map_append, List.sum_append]; simp
def CoI : List V → Obj → Prop := fun ys o => ∃ (t : Tok) (c : Nat), o = { cls := .type "list", dict := none, data := .seq #[.int (isum ys) t] c, slots := #[] }
abbrev eatI : Eat := fun ys y _ c => ∃ i, y = .int i ∧ InLong i ∧ InLong (isum ys + i) ∧ c
theorem eatI_mono : EatMono eatI := fun ys y H c d cd ⟨i, a1, a2, a3, e⟩ => ⟨i, a1, a2, a3, cd e⟩
section
variable {X : Cx} {pins : List (Addr × Obj)} {σ : L2.St} {H H5 : Hp} {s s' sA : Shared} {a : Addr} {g : Nat} {fp : List Addr} {ys : List V} {Qe : List V → Hp → Prop}
theorem nap_sum {S : Addr} {z : Int} {t u : Tok} {c : Nat} {i : Int} (hb : AllBare s.gens) (hS : s.heap.get? S = some { cls := .type "list", dict := none, data := .seq #[.int z t] c, slots := #[] }) (hz : z = isum ys) :
    Nap (some S) CoI (ys ++ [.int i]) s { s with heap := s.heap.update S (Obj.mapSeq fun _ => #[.int (z + i) u]) } := by
  refine ⟨rfl, hb, fun b o hne e => (Heap.get?_update_other _ _ (fun h => hne (by rw [h]))).trans e, fun b e => ?_⟩
  cases e
  exact ⟨_, Heap.get?_update_self _ hS rfl, ⟨u, _, by rw [isum_snoc, ← hz]; rfl⟩, fun v e => nomatch e⟩
theorem sum_loopG {A : Around} {R : Result → Shared → Prop} {S : Addr} (hh : A.handled = none) (hd : A.depth < recursionLimit) (hSa : S ≠ a) (hSc : S ≠ cStatics)
    (hend : ∀ ys H s1 t, Out X (some S) CoI a g sA H5 fp ys H s1 → Qe ys H → R (.ok (.ret (.int (isum ys) t))) s1) :
    ∀ (n : Nat) (s : Shared) (gs : GenState) (ys0 : List V) (o0 : Obj), s.heap.NoLimit → s.heap.IsGen a g → s.heap.get? S = some o0 → CoI ys0 o0 → s.gens[g]? = some gs →
      gs.Goes (model X.prog X.w) A.in1.in1 (RG X (some S) CoI Qe a g sA H5 fp) (YG X (some S) CoI eatI a g sA H5 fp) n (.send .none) (s.setGen g .running) →
      codeAny (model X.prog X.w) A (.builtin "sum.loop" ⟨[.ref a, .ref S, rawInt 0, rawInt 0], []⟩) R s := by
  intro n
  induction n with
  | zero =>
    intro s gs ys0 o0 hl hg hS hco hgs hgo
    obtain ⟨t0, c0, rfl⟩ := hco
    refine codeAny_builtin PySem.F.entry_sum_loop ?_
    rw [Around.under_plainId PySem.F.plain_sum_loop _]
    show wpAny _ A.in1 (seqItems? (.ref S) >>= _) _ _ s
    refine wpAny_bind (wpAny_seqItems hS rfl ?_)
    show wpAny _ A.in1 (tryCatch (pyNext (.ref a)) _ >>= _) _ _ s
    refine wpAny_bind (wpAny_tryCatch (next_gen (A := A.in1) hh hl hd hg hgs hgo (fun v y ys H s1 gs' hb hsz r O hsm e hg' => ?_) (fun ys H s1 O hsm q => ?_) eatI_mono fun _ ys y v _ s1 _ r _ hb ho => ?_))
    · obtain ⟨i, rfl, _, _, m, h, _⟩ := e; cases h
    · obtain ⟨_, o, e1, t, c, rfl⟩ := O.own S rfl
      have e2 := hsm S _ rfl hS
      rw [e1] at e2
      have ez : isum ys = isum ys0 := by
        injection e2 with e2; injection e2 with _ _ e2 _; injection e2 with e2 _; injection e2 with e2; injection (List.cons.inj e2).1
      rw [← ez]
      exact wpAny_pure (hend ys H s1 t0 O q)
    · obtain ⟨o, h1, t, c, rfl⟩ := ho S rfl
      cases y with
      | int i => exact ⟨_, nap_sum (u := 0) hb h1 rfl⟩
      | _ => exact ⟨{ s1 with heap := s1.heap.update S (Obj.mapSeq fun _ => #[.int (isum (ys ++ [_])) 0]) }, ⟨rfl, hb, fun b o hne e => (Heap.get?_update_other _ _ (fun h => hne (by rw [h]))).trans e, fun b e => by cases e; exact ⟨_, Heap.get?_update_self _ h1 rfl, ⟨0, _, rfl⟩, fun v e => nomatch e⟩⟩⟩
  | succ n ih =>
    intro s gs ys0 o0 hl hg hS hco hgs hgo
    obtain ⟨t0, c0, rfl⟩ := hco
    refine codeAny_builtin PySem.F.entry_sum_loop ?_
    rw [Around.under_plainId PySem.F.plain_sum_loop _]
    show wpAny _ A.in1 (seqItems? (.ref S) >>= _) _ _ s
    refine wpAny_bind (wpAny_seqItems hS rfl ?_)
    show wpAny _ A.in1 (tryCatch (pyNext (.ref a)) _ >>= _) _ _ s
    refine wpAny_bind (wpAny_tryCatch (next_gen (A := A.in1) hh hl hd hg hgs hgo (fun v y ys H s1 gs' hb hsz r O hsm e hg' => ?_) (fun ys H s1 O hsm q => ?_) eatI_mono fun h => nomatch h))
    · obtain ⟨i, rfl, ⟨f1, f2⟩, ⟨f3, f4⟩, m, h, e⟩ := e
      cases h
      obtain ⟨tk, rfl⟩ := r
      obtain ⟨_, o, e1, t, c, rfl⟩ := O.own S rfl
      have e2 := hsm S _ rfl hS
      have ez : isum ys = isum ys0 := by
        rw [e1] at e2
        injection e2 with e2; injection e2 with _ _ e2 _; injection e2 with e2 _; injection e2 with e2; injection (List.cons.inj e2).1
      have O' := O.kept (s' := s1.setGen g gs') rfl (allBare_setGen O.bare hb) fun _ _ z => z
      have hc : ((decide (-(2 ^ 63) ≤ i) && decide (i < 2 ^ 63)) && (decide (-(2 ^ 63) ≤ isum ys0 + i) && decide (isum ys0 + i < 2 ^ 63))) = true := by
        rw [ez] at f3 f4
        simp only [Bool.and_eq_true, decide_eq_true_eq]
        exact ⟨⟨f1, f2⟩, f3, f4⟩
      show wpAny _ A.in1 (if (_ : Bool) = true then (mkInt (isum ys0 + i) >>= _) else _) _ _ _
      split
      · refine wpAny_bind (wpAny_mkInt ?_)
        show wpAny _ A.in1 (updateSeq S (fun _ => #[.int (isum ys0 + i) s1.toks]) >>= _) _ _ _
        have kpn : ∀ b o, b ≠ S → s1.heap.get? b = some o → (s1.heap.update S (Obj.mapSeq (fun _ => #[.int (isum ys0 + i) s1.toks]))).get? b = some o := fun b o hbS e => (Heap.get?_update_other _ _ (Ne.symm hbS)).trans e
        have nap6 : Nap (some S) CoI (ys ++ [.int i]) (s1.setGen g gs') { s1.setGen g gs' with heap := s1.heap.update S (Obj.mapSeq fun _ => #[.int (isum ys0 + i) s1.toks]), toks := s1.toks + 1 } := by
          have := nap_sum (s := s1.setGen g gs') (ys := ys) (u := s1.toks) (i := i) O'.bare e2 ez.symm
          exact ⟨this.os, this.bare, this.keep, this.own⟩
        refine wpAny_bind ?_
        refine wpAny_updateSeq (s := { s1.setGen g gs' with toks := s1.toks + 1 }) e2 rfl (wpAny_pure ⟨plainId_quiet PySem.F.plain_sum_loop _, ih _ gs' (ys ++ [.int i]) _ ?_ ?_ (Heap.get?_update_self _ e2 rfl) ⟨s1.toks, _, by rw [isum_snoc, ez]; rfl⟩ hg' (e _ nap6 hg').2⟩)
        · obtain ⟨mc, hns, hnn⟩ := O'.lim
          exact ⟨mc, hns.at' fun o e => kpn _ o (Ne.symm hSc) e, hnn⟩
        · obtain ⟨o, nm, qn, ho, r⟩ := O'.gen
          exact ⟨o, nm, qn, kpn a o (Ne.symm hSa) ho, r⟩
      · rename_i hneg
        exact absurd hc hneg
    · obtain ⟨_, o, e1, t, c, rfl⟩ := O.own S rfl
      have e2 := hsm S _ rfl hS
      rw [e1] at e2
      have ez : isum ys = isum ys0 := by
        injection e2 with e2; injection e2 with _ _ e2 _; injection e2 with e2 _; injection e2 with e2; injection (List.cons.inj e2).1
      rw [← ez]
      exact wpAny_pure (hend ys H s1 t0 O q)
/-- sum(elt for tg in iter if ..), ints handed out -/
def tSumG (P : Addr) (wi : TI) (g : TG) (tt : L2.TT) (te : TE) (vs : List Nat) : TE := fun σ H Q => tGen P eatI (fun ys H' => Q (.int (isum ys)) H') wi g tt te vs σ H
theorem pe_sumG {c P : Addr} {elt tg iter : Expr} {ifs : List Expr} {scope : Scope} {own : List (Str × Nat)} {p pos gpos : Pos} {wi : TI} {g : TG} {tt : L2.TT} {te : TE} {k : Nat}
    (hr : Room (k + 2) X.A) (hgl : Gl X "sum") (hm : X.mg "sum" = none) (hc : X.calm = true) (hN : X.N.Nodup) (TB : GxR.TabB X.base X.mg c P) (hcode : X.env.code = .ref c) (S : GSc X.N X.env.scope scope own) (hi : PI X tg iter wi)
    (hg : ∀ (Ag : Around) (s : Shared) (H : Hp) (cl : List (Str × Addr)) (C : Addr) (code : Value) (fp : List Addr) (pn : List (Addr × Obj)), Room k Ag → PG (gcx X Ag s H scope cl C code fp pn) tg g)
    (ht : ∀ (Ag : Around) (s : Shared) (H : Hp) (cl : List (Str × Addr)) (C : Addr) (code : Value) (fp : List Addr) (pn : List (Addr × Obj)), Room k Ag → PTs (gcx X Ag s H scope cl C code fp pn) ifs tt)
    (he : ∀ (Ag : Around) (s : Shared) (H : Hp) (cl : List (Str × Addr)) (C : Addr) (code : Value) (fp : List Addr) (pn : List (Addr × Obj)), Room k Ag → PE (gcx X Ag s H scope cl C code fp pn) elt te)
    (hs : ∀ v, genFold iter X.env v = pure v := by intro _; rfl) (hb : bootBuiltins "sum" = some (.builtin "sum") := by decide +kernel)
    (hst : starEach [.GeneratorExp elt [⟨tg, iter, ifs, 0⟩] scope gpos] X.env = (false, eval (.GeneratorExp elt [⟨tg, iter, ifs, 0⟩] scope gpos) X.env) :: starEach [] X.env := by rfl) :
    PE X (.Call (.Name "sum" p) [.GeneratorExp elt [⟨tg, iter, ifs, 0⟩] scope gpos] [] pos) (tSumG P wi g tt te (own.map (·.2))) := by
  refine ⟨fun pins s σ H Q I h => ?_⟩
  refine wpAny_Call_Name_kw (ld_blt I hgl hm hb ?_)
  refine PyProof.Rows.callWith_builtin1 ?_ hst (by rfl)
  rw [hst]
  show wpAny _ _ (spliced ((false, eval (.GeneratorExp elt [⟨tg, iter, ifs, 0⟩] scope gpos) X.env) :: backTo pos (starEach [] X.env))) _ _ s
  refine Calls.spliced_cons (thn (gen_make (hr.mono (by omega)) hc hN TB hcode S hi hg ht he hs eatI_mono I h) fun u s5 hG => ?_)
  refine Calls.spliced_nil ?_
  obtain ⟨a, gg, cc, H5, fp, sA, n, rfl, I5, hf, h1, h2, h3, h4, h5, h6, h7, h8, wake⟩ := hG
  have hSa : s5.heap.objs.size ≠ a := Nat.ne_of_gt h2
  have hcl : cStatics < s5.heap.objs.size := let ⟨_, hn, _⟩ := h7; hn.lt
  refine call_function_tree PySem.F.kind_sum PySem.F.plain_sum PySem.F.entry_sum (PySem.F.args_sum1 _) ?_
  unfold Builtin.«sum»
  simp only [List.length_cons, List.length_nil]
  rw [if_neg (by decide)]
  refine wpAny_bind (wpAny_of_eq (show Builtin.Builtins.bindParams "sum" ["start"] 0 { } = pure [none] from rfl) ?_)
  refine wpAny_bind (wpAny_pyIter_gen h3 ?_)
  refine wpAny_bind (wpAny_mkInt ?_)
  refine wpAny_bind (wpAny_pure ?_)
  simp only [List.forIn_cons, List.forIn_nil]
  refine wpAny_bind (wpAny_bind (wpAny_bind (wpAny_isInstance (T := "int") (b := false) (typeIs_int _ _ _) PySem.sub_int_str ?_)))
  simp only [Bool.false_eq_true, if_false]
  refine wpAny_pure (wpAny_bind (wpAny_bind (wpAny_isInstance (T := "int") (b := false) (typeIs_int _ _ _) PySem.sub_int_bytes ?_)))
  simp only [Bool.false_eq_true, if_false]
  refine wpAny_pure (wpAny_bind (wpAny_bind (wpAny_isInstance (T := "int") (b := false) (typeIs_int _ _ _) PySem.sub_int_bytearray ?_)))
  simp only [Bool.false_eq_true, if_false]
  refine wpAny_pure (wpAny_pure ?_)
  refine wpAny_bind (wpAny_newObj_type ?_)
  have k1 : ∀ b o, s5.heap.get? b = some o → (s5.heap.push { cls := .type "list", data := .seq #[Value.int 0 s5.toks] }).get? b = some o := fun b o e => Heap.get?_push_of_some _ e
  have hS : (s5.heap.push { cls := .type "list", data := .seq #[Value.int 0 s5.toks] }).get? s5.heap.objs.size = some { cls := .type "list", data := .seq #[Value.int 0 s5.toks] } := Heap.get?_push_size _ rfl
  refine wpAny_pure ⟨plainId_quiet PySem.F.plain_sum_loop _, sum_loopG (X := X) (H5 := H5) (sA := sA) (fp := fp) (Qe := fun ys H' => Q (.int (isum ys)) H') hr.hd (by have := hr.dp; omega) hSa (Nat.ne_of_gt hcl) (fun ys H' s1 t O q => ?_) n _ _ [] _ (h7.keeps k1) (h3.keeps k1) hS ⟨s5.toks, _, rfl⟩ h4 ⟨rfl, ?_⟩⟩
  · exact ⟨.int (isum ys), H', O.back I5 hf, ⟨t, rfl⟩, q⟩
  · exact wake X.A.in1.in1 (some s5.heap.objs.size) CoI _ (Room.ins hr) I5.ok.frames (fun b e => by cases e; exact ⟨Nat.le_refl _, _, hS, ⟨s5.toks, _, rfl⟩, fun v e => nomatch e⟩) k1 rfl (allBare_setGen (s := { s5 with heap := _, toks := _ }) h6 rfl)
end
end Cs

namespace Cs
open PySem PySem.Spec PyProof.Rows L2
theorem gr_tabbed {P : Addr} {H H' : Hp} (t : GxR.TabG H P) (h : GxR.Tabbed P H H') : Gr H H' := by
  obtain ⟨ps, hP, _⟩ := t
  refine ⟨fun a u _ e n => ?_, fun a xs e => ?_, fun a o u e => ?_, fun a ⟨qs, e, r⟩ => ?_, fun a e => ?_⟩
  · rw [h.2 a (fun z => by rw [z, hP] at e; cases e; exact n _ rfl)]; exact e
  · rw [h.2 a (fun z => by rw [z, hP] at e; cases e)]; exact e
  · rw [h.2 a (fun z => by rw [z, hP] at e; cases e)]; exact e
  · by_cases z : a = P
    · rw [z]; exact h.1
    · exact ⟨qs, by rw [h.2 a z]; exact e, r⟩
  · by_cases z : a = P
    · obtain ⟨⟨qs, e2, _⟩, _⟩ := h
      rw [z, e2] at e; cases e
    · rw [h.2 a z] at e; exact e
/-- a def whose body holds generator expressions: its code object and its table -/
structure DfG (K : PySem.W.Frag) (mg : Str → Option Value) (x : Str) (st : Stmt) (ps : List Str) (c P : Addr) : Prop where
  ex : ∃ (f : Addr) (oc : Value) (od : Option Addr) (kV doc pm : Value) (an : Option Addr) (ct : Value) (osl : Array (Option Value)),
    K.lookup f = some ⟨oc, od, .func (PySem.W.fnOf x x (defArgs st) (defBody st) (defScope st) .none kV doc pm an (.ref c) ct), osl⟩ ∧ PySem.W.codeIn K (.ref c) x = true ∧ mg x = some (.ref f) ∧ PySem.W.keepIn K (.ref f) = true ∧
    Binds K (PySem.W.fnOf x x (defArgs st) (defBody st) (defScope st) .none kV doc pm an (.ref c) ct) ps []
section
variable {P : Program} {w : World} {K : PySem.W.Frag} {mg : Str → Option Value} {base : Heap} {k : Nat} {x : Str} {sp : Sp} {c T : Addr}
theorem DfG.ok {st : Stmt} {N ps : List Str} (D : DfG K mg x st ps c T) (S : FnScope N ps (defScope st)) (len : ∀ vs H Q E, sp vs H Q E → vs.length = ps.length)
    (hbody : ∀ (f : Addr) (A : Around) (outer : List Env) (s : Shared) (H : Hp) (vs : List V) (Q : VK) (E : XK), Room k (A.deeper (envOfC x (defScope st) s.heap.objs.size f (.ref c))) → sp vs H Q E →
      ∃ t, PSs (cxOf CX0 P w K mg base N x (defScope st) f (.ref c) A outer s H E).nox (defBody st) t ∧ t { nx := fun _ H' => Q .non H', rt := Q } (start N vs) H) : Cl CX0 P w K mg base (k + 1) x sp := by
  obtain ⟨f, oc, od, kV, doc, pm, an, ct, osl, lk, hcd, hm, kp, hb⟩ := D.ex
  refine ⟨f, _, ps, fn_of lk hcd S len fun A outer s H vs Q E hr hsp => ?_, hm, kp, hb⟩
  obtain ⟨t, h, q⟩ := hbody f A outer s H vs Q E hr hsp
  exact ⟨t, h.nox, q⟩
theorem DfG.none {CX : CXT} {st : Stmt} {ps : List Str} (D : DfG K mg x st ps c T) (no : ∀ vs H Q E, ¬ sp vs H Q E) : Cl CX P w K mg base k x sp := by
  obtain ⟨f, oc, od, kV, doc, pm, an, ct, osl, lk, hcd, hm, kp, hb⟩ := D.ex
  exact ⟨f, _, ps, ⟨fun vs H Q E h => absurd h (no vs H Q E), fun A outer s H args us vs Q E _ _ _ _ h => absurd h (no vs H Q E)⟩, hm, kp, hb⟩
theorem dg_mk {st : Stmt} {f : Addr} {h : Heap} {oc : Value} {od an : Option Addr} {osl : Array (Option Value)} {kV doc pm ct : Value} {ps : List Str} (X : K.In h) (G : h.Ns mainGlobals mg)
    (hb : ∀ (kV doc pm : Value) (an : Option Addr) (cdv ct : Value) (us : List Value), us.length = ps.length → bindArgs (PySem.W.fnOf x x (defArgs st) (defBody st) (defScope st) .none kV doc pm an cdv ct) ⟨us, []⟩ = pure (ps.zip us))
    (a : PySem.W.nsIn K mainGlobals x = some (some (.ref f))) (l : K.lookup f = some ⟨oc, od, .func (PySem.W.fnOf x x (defArgs st) (defBody st) (defScope st) .none kV doc pm an (.ref c) ct), osl⟩)
    (cd : PySem.W.codeIn K (.ref c) x = true) (k : PySem.W.keepIn K (.ref f) = true) : DfG K mg x st ps c T :=
  ⟨f, _, _, _, _, _, _, _, _, l, cd, PySem.W.mg_of X G a, k, Fun.binds (fun_mk l cd k) hb⟩
end
theorem tab_mk {K : PySem.W.Frag} {x : Str} {f : Addr} {oc : Value} {od : Option Addr} {fd : FuncData} {osl : Array (Option Value)} {c P : Addr} {e : Value} {dd : Option Addr} {vs : Array Value} {sl : Array (Option Value)} (a : PySem.W.nsIn K mainGlobals x = some (some (.ref f)))
    (l : K.lookup f = some ⟨oc, od, .func fd, osl⟩) (hc : fd.code = .ref c) (q : K.lookup c = some ⟨e, dd, .fields vs, sl⟩) (t : (vs[11]? : Option Value) = some (.ref P)) : PySem.W.tabIn K x = some (c, P) := by
  unfold PySem.W.tabIn
  rw [a]
  simp only [l, hc, q, t]
theorem tabB_of {base : Heap} {mg : Str → Option Value} {c P : Addr} (h : LamX.TabB base mg c P) : GxR.TabB base mg c P := ⟨h.code, h.bm, h.gP⟩
theorem tabG0 {H : Hp} {P : Addr} (h : H P = some (.tbl #[])) : GxR.TabG H P := ⟨#[], h, by first | exact TriplesOk.nil | trivial | (intro; simp) | decide⟩
/-- the end where defs hold generator expressions -/
theorem walkT {l : PySem.W.OpenLaw} {k : Nat} {q : Program} {loose : List Str} {XP : (Str → Option Value) → Heap → Prop} {YP : World → Heap → Prop} {d : DefRec} {K : Params → PySem.W.Frag} (xs : List Str)
    (hn : l.most = some 63) (hdf : d.params.defaults = []) (hr : Room k callerA) (hrec : ∀ x ∈ xs, ((recsOf q).find? fun e => e.name == x).isSome = true) (hY : ∀ (w : World) (h : Heap), YP w h → (K w.params).In h)
    (F : ∀ (w : World) (mg : Str → Option Value) (fa : Addr) (h : Heap), (K w.params).In h → h.Ns mainGlobals mg → mg d.name = some (.ref fa) →
      (∀ x ∈ xs, ∀ c P, PySem.W.tabIn (K w.params) x = some (c, P) → PySem.W.CodeHd h c P ∧ h.get? P = some { cls := .none, data := .fields #[] }) → LamX.LawAtS l w (K w.params) CX0 k 63 "_law_script" mg fa h) :
    PySem.W.WalkO q loose XP YP l.row.toRowW d [] (fun f vs => PySem.call f vs) := by
  refine Att.attach_callB hn hdf fun w s₀ s₁ mg mb fa o pm cd doc a vs ns G Y ho hd hcd hmg hobj hints hlen hbits hg => ?_
  have KX := hY w _ Y
  have tabs : ∀ x ∈ xs, ∀ c P, PySem.W.tabIn (K w.params) x = some (c, P) → PySem.W.CodeHd s₁.heap c P ∧ s₁.heap.get? P = some { cls := .none, data := .fields #[] } := fun x hx c P ht => by
    obtain ⟨dd, hdd⟩ := Option.isSome_iff_exists.mp (hrec x hx)
    exact PySem.W.tab_of G.T KX hdd ht
  obtain ⟨fd, cs, sp, hT, nT, C, hb, hsp, hF⟩ := F w mg fa _ KX G.T.g hmg tabs
  exact LamX.law_callTs KX G.T.g G.T.b G.T.builtins G.T.nolimit hg hT nT C G.T.bmain hobj hints (Nat.le_trans hlen (by decide)) hr hF hb (fun H hH hS => hsp H a ns hlen hbits hH hS) fun H e s' z => z
end Cs

namespace Cs
open PySem PySem.Spec PyProof.Rows L2 GenW
open Sem (wp)
/-! ### max of ints -/
def imx (m : Option Int) (y : V) : Option Int := match y with
  | .int i => match m with
    | none => some i
    | some z => some (if z < i then i else z)
  | _ => m
def imax (ys : List V) : Option Int := ys.foldl imx none
theorem imax_snoc (ys : List V) (y : V) : imax (ys ++ [y]) = imx (imax ys) y := by
  unfold imax; rw [List.foldl_append]; rfl
abbrev lsO (xs : Array Value) (c : Nat) : Obj := { cls := .type "list", dict := none, data := .seq xs c, slots := #[] }
def CoM : List V → Obj → Prop := fun ys o => ∃ (c : Nat), (ys = [] ∧ o = lsO #[] c) ∨ ∃ (i : Int) (t : Tok), imax ys = some i ∧ o = lsO #[.int i t, .int i t] c
abbrev eatM : Eat := fun _ y _ c => ∃ i, y = .int i ∧ c
theorem eatM_mono : EatMono eatM := fun ys y H c d cd ⟨i, a1, e⟩ => ⟨i, a1, cd e⟩
section
variable {X : Cx} {pins : List (Addr × Obj)} {σ : L2.St} {H H5 : Hp} {s s' sA : Shared} {a : Addr} {g : Nat} {fp : List Addr} {ys : List V} {Qe : List V → Hp → Prop}
theorem nap_set {S : Addr} {CO : List V → Obj → Prop} {xs zs : Array Value} {c : Nat} {tk : Nat} (hb : AllBare s.gens) (hS : s.heap.get? S = some (lsO xs c)) (h : ∀ c', CO ys (lsO zs c')) :
    Nap (some S) CO ys s { s with heap := s.heap.update S (Obj.mapSeq fun _ => zs), toks := tk } := by
  refine ⟨rfl, hb, fun b o hne e => (Heap.get?_update_other _ _ (fun h => hne (by rw [h]))).trans e, fun b e => ?_⟩
  cases e
  exact ⟨_, Heap.get?_update_self _ hS rfl, h _, fun v e => nomatch e⟩
theorem nap_same {S : Addr} {CO : List V → Obj → Prop} {o : Obj} (hb : AllBare s.gens) (hS : s.heap.get? S = some o) (h : CO ys o) (hc : ∀ v, o.data ≠ .cell v) : Nap (some S) CO ys s s :=
  ⟨rfl, hb, fun _ _ _ e => e, fun b e => by cases e; exact ⟨o, hS, h, hc⟩⟩
theorem gt_int {A : Around} {i m : Int} {t u : Tok} {Q : Value → Shared → Prop} {Ex : Value → Shared → Prop} (h : Q (.bool (decide (m < i))) s) : wpAny (model X.prog X.w) A (richCompare .Gt (.int i t) (.int m u)) Q Ex s := by
  have := CmpOf.ints_gt (prog := X.prog) (w := X.w) (A := A) (P := fun j v => ∃ t, v = .int (if j = 0 then i else m) t) (fun j => if j = 0 then i else m) (fun j v h => h)
  exact this 0 1 _ _ s Q Ex ⟨t, rfl⟩ ⟨u, rfl⟩ (by simpa using h)
theorem fit1 {S : Addr} {c0 : Nat} {s1 : Shared} (O : Out X (some S) CoM a g sA H5 fp ys H s1) (e2 : s1.heap.get? S = some (lsO #[] c0)) : ys = [] := by
  obtain ⟨_, o, e1, c, h⟩ := O.own S rfl
  rw [e2] at e1
  rcases h with ⟨h, _⟩ | ⟨i, t, _, rfl⟩
  · exact h
  · injection e1 with e1; injection e1 with _ _ e1 _; injection e1 with e1 _; injection e1 with e1; cases e1
theorem fit2 {S : Addr} {c0 : Nat} {s1 : Shared} {i0 : Int} {t0 : Tok} (O : Out X (some S) CoM a g sA H5 fp ys H s1) (e2 : s1.heap.get? S = some (lsO #[.int i0 t0, .int i0 t0] c0)) : imax ys = some i0 := by
  obtain ⟨_, o, e1, c, h⟩ := O.own S rfl
  rw [e2] at e1
  rcases h with ⟨_, rfl⟩ | ⟨i, t, h, rfl⟩
  · injection e1 with e1; injection e1 with _ _ e1 _; injection e1 with e1 _; injection e1 with e1; cases e1
  · injection e1 with e1; injection e1 with _ _ e1 _; injection e1 with e1 _; injection e1 with e1
    injection (List.cons.inj e1).1 with e3 _
    rw [h, e3]
theorem max_loopG {A : Around} {R : Result → Shared → Prop} {S : Addr} (hh : A.handled = none) (hd : A.depth < recursionLimit) (hSa : S ≠ a) (hSc : S ≠ cStatics)
    (hend : ∀ ys H s1 i t, Out X (some S) CoM a g sA H5 fp ys H s1 → imax ys = some i → Qe ys H → R (.ok (.ret (.int i t))) { s1 with heap := s1.heap.update S (Obj.mapSeq fun _ => #[]) }) (hne : ∀ H, ¬ Qe [] H) :
    ∀ (n : Nat) (s : Shared) (gs : GenState) (ys0 : List V) (o0 : Obj), s.heap.NoLimit → s.heap.IsGen a g → s.heap.get? S = some o0 → CoM ys0 o0 → s.gens[g]? = some gs →
      gs.Goes (model X.prog X.w) A.in1.in1 (RG X (some S) CoM Qe a g sA H5 fp) (YG X (some S) CoM eatM a g sA H5 fp) n (.send .none) (s.setGen g .running) →
      codeAny (model X.prog X.w) A (.builtin "max.loop" ⟨[.ref a, .none, .ref S], []⟩) R s := by
  have hname : (toString "max" ++ toString ".loop" : String) = "max.loop" := by decide
  intro n
  induction n with
  | zero =>
    intro s gs ys0 o0 hl hg hS hco hgs hgo
    obtain ⟨c0, hco⟩ := hco
    refine codeAny_builtin PySem.F.entry_max_loop ?_
    rw [Around.under_plainId PySem.F.plain_max_loop _]
    show wpAny _ A.in1 (seqItems? (.ref S) >>= _) _ _ s
    have hnone : (0 : Nat) = 0 → ∀ (ys : List V) (y : V) (v : Value) (H : Hp) (s1 : Shared) (C : Prop), RelV y v → eatM ys y H C → AllBare s1.gens → (∀ b, some S = some b → ∃ o, s1.heap.get? b = some o ∧ CoM ys o) → ∃ s', Nap (some S) CoM (ys ++ [y]) s1 s' := fun _ ys y v H s1 C r e hb ho => by
      obtain ⟨o, h1, c, h2⟩ := ho S rfl
      obtain ⟨i, rfl, _⟩ := e
      obtain ⟨z, hz⟩ : ∃ z, imax (ys ++ [.int i]) = some z := by
        rw [imax_snoc]; unfold imx
        cases imax ys <;> exact ⟨_, rfl⟩
      have hl : ∃ xs, o = lsO xs c := by
        rcases h2 with ⟨_, rfl⟩ | ⟨_, _, _, rfl⟩ <;> exact ⟨_, rfl⟩
      obtain ⟨xs, rfl⟩ := hl
      exact ⟨_, nap_set (zs := #[.int z 0, .int z 0]) (tk := 0) hb h1 fun c' => ⟨c', .inr ⟨z, 0, hz, rfl⟩⟩⟩
    rcases hco with ⟨rfl, rfl⟩ | ⟨i0, t0, hi0, rfl⟩
    · refine wpAny_bind (wpAny_seqItems hS rfl ?_)
      show wpAny _ A.in1 (tryCatch (pyNext (.ref a)) _ >>= _) _ _ s
      refine wpAny_bind (wpAny_tryCatch (next_gen (A := A.in1) hh hl hd hg hgs hgo (fun v y ys H s1 gs' hb hsz r O hsm e hg' => ?_) (fun ys H s1 O hsm q => ?_) eatM_mono hnone))
      · obtain ⟨i, rfl, m, h, e⟩ := e; cases h
      · have := fit1 O (hsm S _ rfl hS)
        subst this
        exact absurd q (hne _)
    · refine wpAny_bind (wpAny_seqItems hS rfl ?_)
      show wpAny _ A.in1 (tryCatch (pyNext (.ref a)) _ >>= _) _ _ s
      refine wpAny_bind (wpAny_tryCatch (next_gen (A := A.in1) hh hl hd hg hgs hgo (fun v y ys H s1 gs' hb hsz r O hsm e hg' => ?_) (fun ys H s1 O hsm q => ?_) eatM_mono hnone))
      · obtain ⟨i, rfl, m, h, e⟩ := e; cases h
      · have e2 := hsm S _ rfl hS
        show wpAny _ A.in1 (updateSeq S (fun _ => #[]) >>= _) _ _ _
        refine wpAny_bind ?_
        refine wpAny_updateSeq e2 rfl (wpAny_bind (wpAny_letGo (wpAny_pure ?_)))
        exact hend ys H s1 i0 t0 O (fit2 O e2) q
  | succ n ih =>
    intro s gs ys0 o0 hl hg hS hco hgs hgo
    obtain ⟨c0, hco⟩ := hco
    refine codeAny_builtin PySem.F.entry_max_loop ?_
    rw [Around.under_plainId PySem.F.plain_max_loop _]
    show wpAny _ A.in1 (seqItems? (.ref S) >>= _) _ _ s
    have again_ : ∀ {ys : List V} {H : Hp} {s1 : Shared} {gs' : GenState} {xs zs : Array Value} {c i : _} {z : Int} {t : Tok}, gs'.bare = true → Out X (some S) CoM a g sA H5 fp ys H s1 → s1.heap.get? S = some (lsO xs c) → (s1.setGen g gs').gens[g]? = some gs' → imax (ys ++ [V.int i]) = some z → zs = #[.int z t, .int z t] →
        (∀ s', Nap (some S) CoM (ys ++ [V.int i]) (s1.setGen g gs') s' → s'.gens[g]? = some gs' → s'.gens[g]? = some gs' ∧ gs'.Goes (model X.prog X.w) A.in1.in1 (RG X (some S) CoM Qe a g sA H5 fp) (YG X (some S) CoM eatM a g sA H5 fp) n (.send .none) (s'.setGen g .running)) →
        codeAny (model X.prog X.w) A (.builtin "max.loop" ⟨[.ref a, .none, .ref S], []⟩) R { s1.setGen g gs' with heap := s1.heap.update S (Obj.mapSeq fun _ => zs) } := fun {ys H s1 gs' xs zs c i z t} hb O e2 hg' hz hzs e => by
      have O' := O.kept (s' := s1.setGen g gs') rfl (allBare_setGen O.bare hb) fun _ _ z => z
      have kpn : ∀ b o, b ≠ S → s1.heap.get? b = some o → (s1.heap.update S (Obj.mapSeq (fun _ => zs))).get? b = some o := fun b o hbS e => (Heap.get?_update_other _ _ (Ne.symm hbS)).trans e
      have co : ∀ c', CoM (ys ++ [V.int i]) (lsO zs c') := fun c' => ⟨c', .inr ⟨z, t, hz, by rw [hzs]⟩⟩
      have nap := nap_set (s := s1.setGen g gs') (zs := zs) (tk := s1.toks) O'.bare e2 co
      refine ih _ gs' (ys ++ [V.int i]) _ ?_ ?_ (Heap.get?_update_self _ e2 rfl) (co _) hg' (e _ nap hg').2
      · obtain ⟨mc, hns, hnn⟩ := O'.lim
        exact ⟨mc, hns.at' fun o e => kpn _ o (Ne.symm hSc) e, hnn⟩
      · obtain ⟨o, nm, qn, ho, r⟩ := O'.gen
        exact ⟨o, nm, qn, kpn a o (Ne.symm hSa) ho, r⟩
    rcases hco with ⟨rfl, rfl⟩ | ⟨i0, t0, hi0, rfl⟩
    · refine wpAny_bind (wpAny_seqItems hS rfl ?_)
      show wpAny _ A.in1 (tryCatch (pyNext (.ref a)) _ >>= _) _ _ s
      refine wpAny_bind (wpAny_tryCatch (next_gen (A := A.in1) hh hl hd hg hgs hgo (fun v y ys H s1 gs' hb hsz r O hsm e hg' => ?_) (fun ys H s1 O hsm q => ?_) eatM_mono fun h => nomatch h))
      · obtain ⟨i, rfl, m, h, e⟩ := e
        cases h
        obtain ⟨tk, rfl⟩ := r
        have e2 := hsm S _ rfl hS
        have := fit1 O e2
        subst this
        show wpAny _ A.in1 (updateSeq S (fun _ => #[.int i tk, .int i tk]) >>= _) _ _ _
        refine wpAny_bind ?_
        refine wpAny_updateSeq (s := s1.setGen g gs') e2 rfl ?_
        rw [hname]
        exact wpAny_pure ⟨plainId_quiet PySem.F.plain_max_loop _, again_ (z := i) hb O e2 hg' rfl rfl e⟩
      · have := fit1 O (hsm S _ rfl hS)
        subst this
        exact absurd q (hne _)
    · refine wpAny_bind (wpAny_seqItems hS rfl ?_)
      show wpAny _ A.in1 (tryCatch (pyNext (.ref a)) _ >>= _) _ _ s
      refine wpAny_bind (wpAny_tryCatch (next_gen (A := A.in1) hh hl hd hg hgs hgo (fun v y ys H s1 gs' hb hsz r O hsm e hg' => ?_) (fun ys H s1 O hsm q => ?_) eatM_mono fun h => nomatch h))
      · obtain ⟨i, rfl, m, h, e⟩ := e
        cases h
        obtain ⟨tk, rfl⟩ := r
        have e2 := hsm S _ rfl hS
        have hz := fit2 O e2
        have hz2 : imax (ys ++ [.int i]) = some (if i0 < i then i else i0) := by rw [imax_snoc, hz]; rfl
        show wpAny _ A.in1 (tryCatch (holding [.int i tk, .int i tk] (richCompare .Gt (.int i tk) (.int i0 t0) >>= _)) _ >>= _) _ _ _
        refine wpAny_bind (wpAny_tryCatch (wpAny_holding (wpAny_bind (gt_int ?_))))
        refine wpAny_bind (wpAny_holding (wpAny_truthy_bool ?_))
        refine wpAny_bind (wpAny_letGo (wpAny_pure ?_))
        by_cases hlt : i0 < i
        · rw [decide_eq_true hlt]
          simp only [if_true]
          rw [if_pos hlt] at hz2
          refine wpAny_bind ?_
          refine wpAny_updateSeq (s := s1.setGen g gs') e2 rfl (wpAny_bind (wpAny_letGo ?_))
          rw [hname]
          exact wpAny_pure ⟨plainId_quiet PySem.F.plain_max_loop _, again_ (z := i) hb O e2 hg' hz2 rfl e⟩
        · rw [decide_eq_false hlt]
          simp only [Bool.false_eq_true, if_false]
          rw [if_neg hlt] at hz2
          refine wpAny_bind (wpAny_letGo ?_)
          rw [hname]
          have O' := O.kept (s' := s1.setGen g gs') rfl (allBare_setGen O.bare hb) fun _ _ z => z
          have co : CoM (ys ++ [V.int i]) (lsO #[.int i0 t0, .int i0 t0] c0) := ⟨c0, .inr ⟨i0, t0, hz2, rfl⟩⟩
          exact wpAny_pure ⟨plainId_quiet PySem.F.plain_max_loop _, ih _ gs' (ys ++ [.int i]) _ O'.lim O'.gen e2 co hg' (e _ (nap_same O'.bare e2 co fun v e => nomatch e) hg').2⟩
      · have e2 := hsm S _ rfl hS
        show wpAny _ A.in1 (updateSeq S (fun _ => #[]) >>= _) _ _ _
        refine wpAny_bind ?_
        refine wpAny_updateSeq e2 rfl (wpAny_bind (wpAny_letGo (wpAny_pure ?_)))
        exact hend ys H s1 i0 t0 O (fit2 O e2) q
end
end Cs
namespace Cs
open PySem PySem.Spec PyProof.Rows L2 GenW
open Sem (wp)
section
variable {X : Cx}
/-- max(elt for tg in iter if ..), ints handed out, one at least -/
def tMaxG (P : Addr) (wi : TI) (g : TG) (tt : L2.TT) (te : TE) (vs : List Nat) : TE := fun σ H Q => tGen P eatM (fun ys H' => ys ≠ [] ∧ ∀ z, imax ys = some z → Q (.int z) H') wi g tt te vs σ H
theorem pe_maxG {c P : Addr} {elt tg iter : Expr} {ifs : List Expr} {scope : Scope} {own : List (Str × Nat)} {p pos gpos : Pos} {wi : TI} {g : TG} {tt : L2.TT} {te : TE} {k : Nat}
    (hr : Room (k + 2) X.A) (hgl : Gl X "max") (hm : X.mg "max" = none) (hc : X.calm = true) (hN : X.N.Nodup) (TB : GxR.TabB X.base X.mg c P) (hcode : X.env.code = .ref c) (S : GSc X.N X.env.scope scope own) (hi : PI X tg iter wi)
    (hg : ∀ (Ag : Around) (s : Shared) (H : Hp) (cl : List (Str × Addr)) (C : Addr) (code : Value) (fp : List Addr) (pn : List (Addr × Obj)), Room k Ag → PG (gcx X Ag s H scope cl C code fp pn) tg g)
    (ht : ∀ (Ag : Around) (s : Shared) (H : Hp) (cl : List (Str × Addr)) (C : Addr) (code : Value) (fp : List Addr) (pn : List (Addr × Obj)), Room k Ag → PTs (gcx X Ag s H scope cl C code fp pn) ifs tt)
    (he : ∀ (Ag : Around) (s : Shared) (H : Hp) (cl : List (Str × Addr)) (C : Addr) (code : Value) (fp : List Addr) (pn : List (Addr × Obj)), Room k Ag → PE (gcx X Ag s H scope cl C code fp pn) elt te)
    (hs : ∀ v, genFold iter X.env v = pure v := by intro _; rfl) (hb : bootBuiltins "max" = some (.builtin "max") := by decide +kernel)
    (hst : starEach [.GeneratorExp elt [⟨tg, iter, ifs, 0⟩] scope gpos] X.env = (false, eval (.GeneratorExp elt [⟨tg, iter, ifs, 0⟩] scope gpos) X.env) :: starEach [] X.env := by rfl) :
    PE X (.Call (.Name "max" p) [.GeneratorExp elt [⟨tg, iter, ifs, 0⟩] scope gpos] [] pos) (tMaxG P wi g tt te (own.map (·.2))) := by
  have hname : (toString "max" ++ toString ".loop" : String) = "max.loop" := by decide
  refine ⟨fun pins s σ H Q I h => ?_⟩
  refine wpAny_Call_Name_kw (ld_blt I hgl hm hb ?_)
  refine PyProof.Rows.callWith_builtin1 ?_ hst (by rfl)
  rw [hst]
  show wpAny _ _ (spliced ((false, eval (.GeneratorExp elt [⟨tg, iter, ifs, 0⟩] scope gpos) X.env) :: backTo pos (starEach [] X.env))) _ _ s
  refine Calls.spliced_cons (thn (gen_make (hr.mono (by omega)) hc hN TB hcode S hi hg ht he hs eatM_mono I h) fun u s5 hG => ?_)
  refine Calls.spliced_nil ?_
  obtain ⟨a, gg, cc, H5, fp, sA, n, rfl, I5, hf, h1, h2, h3, h4, h5, h6, h7, h8, wake⟩ := hG
  have hSa : s5.heap.objs.size ≠ a := Nat.ne_of_gt h2
  have hcl : cStatics < s5.heap.objs.size := let ⟨_, hn, _⟩ := h7; hn.lt
  refine call_function_tree PySem.F.kind_max PySem.F.plain_max PySem.F.entry_max (PySem.F.args_max1 _) ?_
  show wpAny _ X.A.in1 (Builtin.Builtins.bindParams "max" ["key", "default"] 0 ⟨[], []⟩ >>= _) _ _ s5
  refine wpAny_bind (wpAny_of_eq (show Builtin.Builtins.bindParams "max" ["key", "default"] 0 ⟨[], []⟩ = pure [none, none] from rfl) ?_)
  refine wpAny_bind (wpAny_pure ?_)
  refine wpAny_bind (wpAny_pyIter_gen h3 ?_)
  refine wpAny_bind (wpAny_newObj_type ?_)
  rw [hname]
  have k1 : ∀ b o, s5.heap.get? b = some o → (s5.heap.push { cls := .type "list", data := .seq ([] : List Value).toArray }).get? b = some o := fun b o e => Heap.get?_push_of_some _ e
  have hS : (s5.heap.push { cls := .type "list", data := .seq ([] : List Value).toArray }).get? s5.heap.objs.size = some { cls := .type "list", data := .seq ([] : List Value).toArray } := Heap.get?_push_size _ rfl
  refine wpAny_pure ⟨plainId_quiet PySem.F.plain_max_loop _, max_loopG (X := X) (H5 := H5) (sA := sA) (fp := fp) (Qe := fun ys H' => ys ≠ [] ∧ ∀ z, imax ys = some z → Q (.int z) H') hr.hd (by have := hr.dp; omega) hSa (Nat.ne_of_gt hcl) (fun ys H' s1 i t O hi hq => ?_) (fun H' h => h.1 rfl) n { s5 with heap := s5.heap.push { cls := .type "list", data := .seq ([] : List Value).toArray } } _ [] _ (h7.keeps k1) (h3.keeps k1) hS ⟨0, .inl ⟨rfl, rfl⟩⟩ h4 ⟨rfl, ?_⟩⟩
  · have I1 := O.back I5 hf
    have hSn := (O.own _ rfl).1
    have hle : sA.heap.objs.size ≤ s5.heap.objs.size := Nat.le_trans h1 (Nat.le_of_lt h2)
    obtain ⟨_, f1, _, f3, f4, f5⟩ := I5.fpOk (H' := H') hle hSn
    exact ⟨.int i, H', I1.turned (t' := s1.toks) (fun b o hb e => (Heap.get?_update_other _ _ (Ne.symm hb)).trans e) hSn f1 f3 f4 f5, ⟨t, rfl⟩, hq.2 i hi⟩
  · exact wake X.A.in1.in1 (some s5.heap.objs.size) CoM _ (Room.ins hr) I5.ok.frames (fun b e => by cases e; exact ⟨Nat.le_refl _, _, hS, ⟨0, .inl ⟨rfl, rfl⟩⟩, fun v e => nomatch e⟩) k1 rfl (allBare_setGen (s := { s5 with heap := _ }) h6 rfl)
end
end Cs

namespace Cs
open PySem PySem.Spec PyProof.Rows L2
/-! ### the forms one uses -/
theorem gt_tup {K : PySem.W.Frag} {a : Addr} {xs : List V} {E : Eat} {Qe : List V → Hp → Prop} {g : TG} {tt : L2.TT} {te : TE} {vs : List Nat} {σ : L2.St} {H : Hp} (Pv : Nat → List V → Hp → Prop) (h0 : Pv 0 [] H) (hl : ∀ i ys H, i ≤ xs.length → Pv i ys H → SqT K H a xs)
    (hs : ∀ i x ys H, xs[i]? = some x → Pv i ys H → g x (wipe σ vs) H fun σ2 H2 => wipe σ2 vs = wipe σ vs ∧ tt σ2 H2 fun b H3 => if b = true then te σ2 H3 fun y H4 => E ys y H4 (Pv (i + 1) (ys ++ [y]) H4) else Pv (i + 1) ys H3)
    (hd : ∀ ys H, Pv xs.length ys H → Qe ys H) : ∃ W, (∃ m, W 0 m [] H) ∧ GTurn E Qe (Itt K a) g tt te (wipe σ vs) vs W := by
  refine ⟨fun i m ys H => m = xs.length - i ∧ i ≤ xs.length ∧ Pv i ys H, ⟨xs.length, by simp, Nat.zero_le _, h0⟩, ?_⟩
  rintro i m ys H ⟨rfl, hi, p⟩
  have q := hl i ys H hi p
  by_cases hlt : i < xs.length
  · refine .inr ⟨⟨xs, xs[i], q, by simp [hlt]⟩, Pv (i + 1), fun ys' H' p' => ⟨xs.length - (i + 1), by omega, rfl, hlt, p'⟩, fun x H' y => ?_⟩
    obtain ⟨e, y⟩ := y
    subst e
    exact hs i x ys _ (y xs q) p
  · have e : i = xs.length := by omega
    subst e
    exact .inl ⟨⟨xs, q, Nat.le_refl _⟩, hd ys H p⟩
theorem gt_list {K : PySem.W.Frag} {a : Addr} {xs : List V} {E : Eat} {Qe : List V → Hp → Prop} {g : TG} {tt : L2.TT} {te : TE} {vs : List Nat} {σ : L2.St} {H : Hp} (Pv : Nat → List V → Hp → Prop) (h0 : Pv 0 [] H) (hl : ∀ i ys H, i ≤ xs.length → Pv i ys H → SqL K H a xs)
    (hs : ∀ i x ys H, xs[i]? = some x → Pv i ys H → g x (wipe σ vs) H fun σ2 H2 => wipe σ2 vs = wipe σ vs ∧ tt σ2 H2 fun b H3 => if b = true then te σ2 H3 fun y H4 => E ys y H4 (Pv (i + 1) (ys ++ [y]) H4) else Pv (i + 1) ys H3)
    (hd : ∀ ys H, Pv xs.length ys H → Qe ys H) : ∃ W, (∃ m, W 0 m [] H) ∧ GTurn E Qe (Itl K a) g tt te (wipe σ vs) vs W := by
  refine ⟨fun i m ys H => m = xs.length - i ∧ i ≤ xs.length ∧ Pv i ys H, ⟨xs.length, by simp, Nat.zero_le _, h0⟩, ?_⟩
  rintro i m ys H ⟨rfl, hi, p⟩
  have q := hl i ys H hi p
  by_cases hlt : i < xs.length
  · refine .inr ⟨⟨xs, xs[i], q, by simp [hlt]⟩, Pv (i + 1), fun ys' H' p' => ⟨xs.length - (i + 1), by omega, rfl, hlt, p'⟩, fun x H' y => ?_⟩
    obtain ⟨e, y⟩ := y
    subst e
    exact hs i x ys _ (y xs q) p
  · have e : i = xs.length := by omega
    subst e
    exact .inl ⟨⟨xs, q, Nat.le_refl _⟩, hd ys H p⟩
end Cs

namespace Cs
open PySem PySem.Spec PyProof.Rows L2
/-! ### own exceptions: B.__init__(self, ..), B an own class whose __init__ is ValueError's -/
structure BsI (K : PySem.W.Frag) (B : Addr) (mc : Value) : Prop where
  rd : PySem.W.readsIn K B mc = true
  ga : PySem.W.specialIn K (.ref B) "__getattribute__" = some (some (.builtin "type.__getattribute__"))
  at_ : PySem.W.findCls K (.ref B) mc "__init__" = some (.val (.builtin "ValueError.__init__"))
section
variable {X : Cx} {e : Expr} {es : List Expr} {ta : TA} {x : Str} {B : Addr} {mc : Value} {p1 p2 pos : Pos}
theorem pe_scinit {pl : Sem Bool} (hg : Gl X x) (hm : X.mg x = some (.ref B)) (T : BsI X.K B mc) (ha : PA X (e :: es) ta) (hdb : (x == ("__debug__" : Str)) = false := by decide)
    (hc : eval (.Call (.Attribute (.Name x p1) "__init__" p2) (e :: es) [] pos) X.env = (do
      let ov ← eval (.Name x p1) X.env
      standAt p2.atName
      let (f, first) ← holding [ov] (getMethod ov "__init__" pl)
      callWith pos f first (backTo pos (starEach (e :: es) X.env)) (backToKw pos (keywordEach [] X.env))) := by rfl)
    (he : starEach (e :: es) X.env = (false, eval e X.env) :: starEach es X.env := by rfl) (hpl : (backTo pos (starEach es X.env)).any (·.1) = false := by rfl) :
    PE X (.Call (.Attribute (.Name x p1) "__init__" p2) (e :: es) [] pos) (tVeI X.K ta) := by
  refine ⟨fun pins s σ H Q I h => ?_⟩
  refine PySem.W.methodCall_KW (ld_glob I hg hm ?_ hdb) hc
  refine PySem.W.method_cls I.kIn T.ga (PySem.W.cls_value I.kIn T.rd T.at_ (by decide +kernel) ?_)
  show wpAny _ _ (callWith pos (Value.builtin "ValueError.__init__") [] (backTo pos (starEach (e :: es) X.env)) []) _ _ _
  refine PyProof.Rows.callWith_method1 (thn (ha.run pos pins _ σ H _ (I.tok _) h) fun us s1 ⟨vs, H1, I1, r1, a, C, ws, ev, hl, T, ea, q⟩ => ?_) he hpl
  subst ev
  cases r1 with
  | @cons _ u0 _ ur ra rw' =>
    obtain rfl : u0 = Value.ref a := ra
    have hlen : ur.length ≤ sizeLine := by
      rw [← Paired.length rw', sizeLine_eq]
      omega
    exact oinit_ok T I1 ea hlen fun s' J => ⟨.non, H1, J, rfl, q⟩
end
end Cs
namespace Cs
open PySem PySem.Spec PyProof.Rows L2
/-- an own exception class whose __init__ keeps a promise -/
structure Xm (CX : CXT) (P : Program) (w : World) (K : PySem.W.Frag) (mg : Str → Option Value) (base : Heap) (k : Nat) (x : Str) (C : Addr) (sp : Sp) : Prop where
  ex : ∃ f fd ps, FnOk P w K mg base CX k f fd ps sp ∧ OexC K C ∧ PySem.W.findIn K (.ref C) "__init__" = some (some (.ref f)) ∧ PySem.W.typeIn K (.ref f) = some (.type "function") ∧ mg x = some (.ref C) ∧ Binds K fd ps []
theorem xm_of {CX : CXT} {P : Program} {w : World} {K : PySem.W.Frag} {mg : Str → Option Value} {base : Heap} {k : Nat} {x : Str} {C f0 : Addr} {sp : Sp} (c : Ml CX P w K mg base k C "__init__" sp) (T : OexC K C) (hx : mg x = some (.ref C))
    (a : PySem.W.findIn K (.ref C) "__init__" = some (some (.ref f0))) (t : PySem.W.typeIn K (.ref f0) = some (.type "function")) : Xm CX P w K mg base k x C sp := by
  obtain ⟨f, fd, ps, F, ⟨h1, h2, h3⟩, hb⟩ := c.ex
  rw [a] at h1
  cases h1
  exact ⟨_, fd, ps, F, T, a, t, hx, hb⟩
section
variable {X : Cx} {CX : CXT} {k j : Nat} {C : Addr} {x : Str} {sp : Sp} {p pos : Pos} {e : Expr} {es : List Expr} {ta : TA}
theorem pxk (c : Xm CX X.prog X.w X.K X.mg X.base k x C sp) (hr : Room j X.A) (hk : k + 1 ≤ j) (hg : Gl X x) (hx : Passes CX X (fun _ _ _ => False)) (ha : PA X (e :: es) ta)
    (hdb : (x == ("__debug__" : Str)) = false := by decide) (he : starEach (e :: es) X.env = (false, eval e X.env) :: starEach es X.env := by rfl) (hpl : (backTo pos (starEach es X.env)).any (·.1) = false := by rfl) :
    PMk X (.Call (.Name x p) (e :: es) [] pos) (tMkO C sp [] ta) := by
  obtain ⟨f, fd, ps, F, T, iC, tI, hm, hb⟩ := c.ex
  exact pmk_oex T iC tI F (hr.mono hk) hb .nil hx hg hm ha hdb he hpl
end
end Cs
namespace Cs
open PySem PySem.Spec PyProof.Rows L2
section
variable {P : Program} {w : World} {K : PySem.W.Frag} {mg : Str → Option Value} {base : Heap} {k : Nat} {C : Addr} {x m qual : Str} {sp : Sp} {st : Stmt} {N ps : List Str}
/-- a method that may raise -/
theorem Dm.okX (D : Dm K C m qual st ps) (S : FnScope N ps (defScope st)) (len : ∀ vs H Q E, sp vs H Q E → vs.length = ps.length)
    (hbody : ∀ (f : Addr) (cdv : Value) (A : Around) (outer : List Env) (s : Shared) (H : Hp) (vs : List V) (Q : VK) (E : XK), Room k (A.deeper (envOfC qual (defScope st) s.heap.objs.size f cdv)) → sp vs H Q E →
      ∃ t, PSs (cxOf (L2.CX P w) P w K mg base N qual (defScope st) f cdv A outer s H E) (defBody st) t ∧ t { nx := fun _ H' => Q .non H', rt := Q } (start N vs) H) : Ml (L2.CX P w) P w K mg base (k + 1) C m sp := by
  obtain ⟨f, fd, F, hm, hf, hb⟩ := D.ex
  exact ⟨f, fd, ps, F.okX S len (hbody f), ⟨hm, hf, F.kp⟩, hb⟩
/-- a def that may raise -/
theorem Df.okX (D : Df K mg x st ps) (S : FnScope N ps (defScope st)) (len : ∀ vs H Q E, sp vs H Q E → vs.length = ps.length)
    (hbody : ∀ (f : Addr) (cdv : Value) (A : Around) (outer : List Env) (s : Shared) (H : Hp) (vs : List V) (Q : VK) (E : XK), Room k (A.deeper (envOfC x (defScope st) s.heap.objs.size f cdv)) → sp vs H Q E →
      ∃ t, PSs (cxOf (L2.CX P w) P w K mg base N x (defScope st) f cdv A outer s H E) (defBody st) t ∧ t { nx := fun _ H' => Q .non H', rt := Q } (start N vs) H) : Cl (L2.CX P w) P w K mg base (k + 1) x sp := by
  obtain ⟨f, fd, F, hm, hb⟩ := D.ex
  exact ⟨f, fd, ps, F.okX S len (hbody f), hm, F.kp, hb⟩
end
end Cs

namespace Cs
open PySem PySem.Spec PyProof.Rows L2 PySem.Froz
/-! ### sets of texts -/
/-- the set of texts at a: its members, each once, in some order -/
def SetT (P : Program) (w : World) (h : Heap) (a : Addr) (l : List Str) : Prop :=
  ∃ D : SD, h.get? a = some (sObj "set" D) ∧ TxOk P w D l ∧ l.Nodup ∧ Ris D.2.2.place.toList ∧ (w.params.followText "set-order" = true ∨ D.2.2.led = true) ∧ l.length < scanBound
theorem tailTx_ris (ep : Nat) (es1 : Array (Int × Value)) (t2 : SetTable) (b : Bool) (r : Ris t2.place.toList) : Ris (tailTx ep es1 t2 b).2.2.place.toList := by
  unfold tailTx
  split
  · exact relayAll_ris _ _ _
  · exact r
theorem tailTx_led (ep : Nat) (es1 : Array (Int × Value)) (t2 : SetTable) (b : Bool) : (tailTx ep es1 t2 b).2.2.led = t2.led := by
  unfold tailTx
  split
  · exact relayAll_led _ _ _
  · rfl
theorem addTx_ris (h : Int) (v : Value) (D : SD) (r : Ris D.2.2.place.toList) : Ris (addTx h v D).2.2.place.toList := by
  unfold addTx
  refine tailTx_ris _ _ _ _ ?_
  have h1 := layNew_ris D.2.2 D.1 h v r
  split
  · exact h1
  · exact h1
theorem addTx_led (h : Int) (v : Value) (D : SD) : (addTx h v D).2.2.led = D.2.2.led := by
  unfold addTx
  rw [tailTx_led]
  have h1 := layNew_led D.2.2 D.1 h v
  split
  · exact h1
  · exact h1
section
variable {P : Program} {w : World} {A : Around} {E : Value → Shared → Prop} {s : Shared} {h h' : Heap} {a : Addr} {l : List Str}
theorem SetT.at (R : SetT P w h a l) (k : ∀ o, h.get? a = some o → h'.get? a = some o) : SetT P w h' a l := by
  obtain ⟨D, ho, r⟩ := R
  exact ⟨D, k _ ho, r⟩
theorem SetT.add {k : Str} (u : Tok) (R : SetT P w h a l) (hk : k ∉ l) (hb : l.length + 1 < scanBound) : ∀ D, h.get? a = some (sObj "set" D) → SetT P w (h.update a fun _ => sObj "set" (addTx (hashStr w k) (.str k u) D)) a (k :: l) := by
  intro D0 e0
  obtain ⟨D, ho, F, nd, r, hl, _⟩ := R
  rw [ho] at e0
  have eD : D = D0 := by
    injection e0 with e0; injection e0 with _ _ e0 _; injection e0 with e1 e2 e3
    exact Prod.ext e1 (Prod.ext e2 e3)
  subst eD
  refine ⟨_, get_upd _ ho rfl, add_ok u F, List.nodup_cons.mpr ⟨hk, nd⟩, addTx_ris _ _ _ r, ?_, hb⟩
  rw [addTx_led]; exact hl
end
end Cs
namespace Cs
open PySem PySem.Spec PyProof.Rows L2 PySem.Froz
section
variable {P : Program} {w : World} {A : Around} {E : Value → Shared → Prop} {s : Shared} {a : Addr} {l : List Str}
theorem SetT.old {k : Str} {u : Tok} {Q : Bool → Shared → Prop} (R : SetT P w s.heap a l) (hk : k ∈ l) (h : Q false s) : wpAny (model P w) A (setAddHashed a (.str k u) (hashStr w k)) Q E s := by
  obtain ⟨⟨es, ep, t⟩, ho, F, nd, r, hl, hb⟩ := R
  have hd : (sObj "set" (es, ep, t)).data = .set es ep t := rfl
  have hf : t.fits es.size = true := F.fit
  have hel : ElemsOf (strKind P w) es.toList := F.el
  have hsz : es.size = l.length := F.sz
  have hb0 : es.size < scanBound := by omega
  have hkey : (strKind P w).is k (.str k u) = true := is_str k u
  obtain ⟨j, hj⟩ : ∃ j, List.findIdx? (fun e => (strKind P w).is k e.2) es.toList = some j := by
    obtain ⟨e, he, q⟩ := (F.mem k).mp hk
    cases hr : List.findIdx? (fun e => (strKind P w).is k e.2) es.toList with
    | some j => exact ⟨j, rfl⟩
    | none =>
      have c := List.findIdx?_eq_none_iff.mp hr e he
      rw [q] at c; cases c
  unfold setAddHashed setAddHashedIn
  refine wpAny_holding (wpAny_bind (wpAny_setState_of ho hd hf ?_))
  dsimp only
  rw [byScan_of rfl hb0 hel]
  simp only [↓reduceIte]
  unfold setAddByScan
  refine wpAny_bind ?_
  refine wpAny_bind (wpAny_rule ?_)
  refine wpAny_bind (wpAny_setScan_of (knd := strKind P w) (k := k) hkey ho hd hf hel ?_)
  rw [hj]
  dsimp only
  exact wpAny_pure (wpAny_pure h)
/-- found.add(text) -/
theorem SetT.call {k : Str} {u : Tok} {Q : Value → Shared → Prop} (R : SetT P w s.heap a l) (hb : l.length + 1 < scanBound)
    (hQ : ∀ h' l', (∀ b o, b ≠ a → s.heap.get? b = some o → h'.get? b = some o) → SetT P w h' a l' → (∀ y, y ∈ l' ↔ y = k ∨ y ∈ l) → l'.length ≤ l.length + 1 → Q .none { s with heap := h', toks := s.toks + 1 }) :
    wpAny (model P w) A (call (.builtin "set.add") [.ref a, .str k u]) Q E s := by
  have hT : s.TypeIs (.ref a) "set" := let ⟨D, ho, _⟩ := R; ⟨_, ho, rfl⟩
  refine wpAny_call_entry F.slot_set_add hT F.entry_set_add ?_ (F.args_set_add_2 _ _)
  unfold Builtin.«set.add» Builtin.Frozenset.oneOther
  simp only [List.isEmpty_nil, bind_assoc]
  unfold Builtin.Frozenset.addrOf setAdd
  refine wpAny_bind (wpAny_pure ?_)
  try dsimp only
  refine wpAny_bind (wpAny_pure ?_)
  try dsimp only
  refine wpAny_bind ?_
  refine wpAny_holding ?_
  refine wpAny_bind ((strKind P w).pyHash (is_str k u) ?_)
  by_cases hk : k ∈ l
  · refine SetT.old (s := { s with toks := s.toks + 1 }) R hk ?_
    show wpAny _ _ (ret Value.none) _ _ _
    exact wpAny_pure ⟨_, rfl, hQ s.heap l (fun _ _ _ e => e) R (fun y => ⟨.inr, fun h => h.elim (fun e => by rw [e]; exact hk) id⟩) (Nat.le_succ _)⟩
  · obtain ⟨D, ho, F, _⟩ := id R
    refine add_x (s := { s with toks := s.toks + 1 }) ho F hk hb ?_
    show wpAny _ _ (ret Value.none) _ _ _
    exact wpAny_pure ⟨_, rfl, hQ _ (k :: l) (fun b o hne e => (Heap.get?_update_other _ _ (Ne.symm hne)).trans e) (R.add u hk hb D ho) (fun y => List.mem_cons) (Nat.le_refl _)⟩
end
end Cs
namespace Cs
open PySem PySem.Spec PyProof.Rows L2 PySem.Froz
/-- the set of texts at a, tracked -/
def SetTO (P : Program) (w : World) (a : Addr) (l : List Str) : HO := .ext fun h => SetT P w h a l
theorem setTO_new {w : World} {P : Program} {H : Hp} {h : Heap} {a : Addr} {l : List Str} (R : SetT P w h a l) : ObjOk P w H h a (SetTO P w a l) := by
  have ⟨D, ho, _⟩ := R
  exact ⟨R, ⟨_, ho⟩, fun h1 h2 p k => SetT.at p k⟩
theorem setTO_get {X : Cx} {pins : List (Addr × Obj)} {σ : L2.St} {H : Hp} {s : Shared} {a : Addr} {l : List Str} (I : Inv X pins σ H s) (ha : H a = some (SetTO X.prog X.w a l)) : SetT X.prog X.w s.heap a l := (I.hok a _ ha).1
theorem setT_fresh {P : Program} {w : World} {h : Heap} {a : Addr} (h0 : h.get? a = some (sObj "set" (#[], 0, .fresh 0 0 (!w.params.followText "set-order")))) : SetT P w h a [] := by
  refine ⟨_, h0, TxOk.nil (by rfl), List.nodup_nil, by first | trivial | exact List.Pairwise.nil | decide, ?_, by decide⟩
  cases hf : w.params.followText "set-order" with
  | true => exact .inl rfl
  | false => exact .inr rfl
end Cs

namespace Cs
open PySem PySem.Spec PyProof.Rows L2 PySem.Froz
/-- the text of a value -/
def txt : Value → Str
  | .str x _ => x
  | _ => Str.ofString ""
theorem strs_txt : ∀ (l : List Value), (∀ v ∈ l, ∃ k tk, v = Value.str k tk) → StrsAre l (l.map txt)
  | [], _ => .nil
  | v :: l, h => by
    obtain ⟨k, tk, rfl⟩ := h v List.mem_cons_self
    exact .cons k tk (strs_txt l fun u hu => h u (List.mem_cons_of_mem _ hu))
section
variable {P : Program} {w : World}
theorem txOk_txt {D : SD} {l : List Str} (F : TxOk P w D l) : (∀ v ∈ D.1.toList.map (·.2), ∃ k tk, v = Value.str k tk) ∧ ∀ k : Str, k ∈ (D.1.toList.map (·.2)).map Cs.txt ↔ k ∈ l := by
  have h0 : ∀ v ∈ D.1.toList.map (·.2), ∃ k tk, v = Value.str k tk := by
    intro v hv
    obtain ⟨e, he, rfl⟩ := List.mem_map.mp hv
    obtain ⟨⟨k, hk, _⟩, _⟩ := F.el e he
    obtain ⟨t, q⟩ := Value.isStrOf_shape hk
    exact ⟨k, t, q⟩
  refine ⟨h0, fun k => ?_⟩
  rw [F.mem k, List.map_map]
  constructor
  · intro hk
    obtain ⟨e, he, q⟩ := List.mem_map.mp hk
    obtain ⟨k', t', q'⟩ := h0 e.2 (List.mem_map.mpr ⟨e, he, rfl⟩)
    refine ⟨e, he, ?_⟩
    have q2 : k' = k := by rw [← q]; show k' = Cs.txt e.2; rw [q']; rfl
    rw [q', q2]; exact is_str k t'
  · intro ⟨e, he, q⟩
    obtain ⟨t, q'⟩ := Value.isStrOf_shape q
    refine List.mem_map.mpr ⟨e, he, ?_⟩
    show Cs.txt e.2 = k
    rw [q']; rfl
end
end Cs
namespace Cs
open PySem PySem.Spec PyProof.Rows L2 PySem.Froz
theorem perm_nodup : ∀ (l m : List Str), l.Nodup → (∀ x ∈ l, x ∈ m) → m.length = l.length → m.Perm l
  | [], m, _, _, e => by
    have : m = [] := List.length_eq_zero_iff.mp e
    rw [this]
  | x :: l, m, d, h, e => by
    obtain ⟨d1, d2⟩ := List.nodup_cons.mp d
    have hx := h x List.mem_cons_self
    have p := List.perm_cons_erase hx
    refine p.trans (List.Perm.cons x (perm_nodup l (m.erase x) d2 (fun y hy => ?_) ?_))
    · have ne : y ≠ x := fun z => d1 (z ▸ hy)
      exact (List.mem_erase_of_ne ne).mpr (h y (List.mem_cons_of_mem _ hy))
    · have q := p.length_eq
      simp only [List.length_cons] at q e
      omega
section
variable {P : Program} {w : World} {A : Around} {E : Value → Shared → Prop} {s : Shared} {a : Addr} {l : List Str}
/-- sorted(set of texts) -/
theorem sortedT {Q : Value → Shared → Prop} (R : SetT P w s.heap a l) (hh : A.handled = none) (hL : l.length ≤ sizeLine)
    (hQ : ∀ s' p (out : Array Value) (c : Nat) (ys : List Str), (∀ b o, s.heap.get? b = some o → s'.heap.get? b = some o) → s'.gens = s.gens → s'.os = s.os → s.heap.objs.size ≤ p →
      s'.heap.get? p = some (seqObj "list" out c) → StrsAre out.toList ys → sortedS ys = true → ys.Perm l → Q (.ref p) s') :
    wpAny (model P w) A (call (.builtin "sorted") [.ref a]) Q E s := by
  obtain ⟨⟨es, ep, t⟩, ho, F, nd, hr, hl, hb⟩ := R
  have hf : t.fits es.size = true := F.fit
  have hsz : es.size = l.length := F.sz
  obtain ⟨T1, T2⟩ := txOk_txt F
  refine Calls.call_function_entry kind_sorted plain_sorted entry_sorted (args_sorted1 _) ?_
  unfold Builtin.«sorted»
  refine wpAny_bind (m := checkCount "sorted" 1 1 _) (wpAny_pure ?_)
  refine wpAny_bind (collect_set (A := A.in1) (es := es) (ep := ep) (t := t) hh ⟨_, ho, rfl, rfl⟩ hf (by have := hb; rw [← hsz] at this; exact this) hr hl fun s1 vs k1 hz g1 o1 pm => ?_)
  have hvl : vs.length = l.length := by rw [pm.length_eq, List.length_map, Array.length_toList]; exact hsz
  have hI : StrsAre vs (vs.map Cs.txt) := strs_txt vs fun v hv => T1 v (pm.mem_iff.mp hv)
  have pk : (vs.map Cs.txt).Perm l := by
    refine perm_nodup l _ nd (fun x hx => ?_) (by rw [List.length_map]; exact hvl)
    exact (pm.map Cs.txt).mem_iff.mpr ((T2 x).mpr hx)
  refine wpAny_bind (wpAny_newList ?_ (by rw [hvl]; exact hL))
  have hoL : (s1.heap.push (seqObj "list" vs.toArray 0)).get? s1.heap.objs.size = some (seqObj "list" vs.toArray 0) := Heap.get?_push_size _ rfl
  refine wpAny_bind (wpAny_holding (wpAny_call_entry slot_list_sort ⟨_, hoL, rfl⟩ entry_list_sort (list_sort_treeKAny strKind_oneLt hoL hI.keysOf (fun v₁ v₂ rest e => keyKind_strs (by rw [← e]; exact hI)) (by rw [hvl]; exact hL) fun st' b1 b2 => ⟨_, rfl, ?_⟩) (args_list_sort _)))
  obtain ⟨ys, a1, a2, a3⟩ := sorted_out_str hI b1 b2
  obtain ⟨c, hc⟩ := sortedHeap_at (vs := vs) (out := (arrOf st').map (·.2)) hoL
  refine wpAny_pure ⟨_, rfl, hQ _ s1.heap.objs.size _ c ys (fun b u e => ?_) g1 o1 hz hc a1 a3 (a2.trans pk)⟩
  have q := k1 b u e
  have hlt := Heap.lt_size q
  show (sortedHeap (s1.heap.push (seqObj "list" vs.toArray 0)) s1.heap.objs.size vs _).get? b = some u
  rw [sortedHeap_old (Nat.ne_of_lt hlt) (by rw [size_push']; exact Nat.lt_succ_of_lt hlt)]
  exact Heap.get?_push_of_some _ q
end
section
variable {X : Cx}
/-- sorted(found), a set of texts -/
def rSortedT (P : Program) (w : World) : List V → Hp → VK → Prop := fun vs H Q => ∃ (a : Addr) (l : List Str), vs = [V.ref a] ∧ H a = some (SetTO P w a l) ∧ l.length ≤ sizeLine ∧
  ∀ (ys : List Str) (p : Addr), ys.Perm l → sortedS ys = true → ys.Nodup → H p = none → Q (.ref p) (upd H p (.lst (ys.map V.str)))
theorem cr_sortedT (hc : X.calm = true) : CallR X (.builtin "sorted") (rSortedT X.prog X.w) := by
  intro pins s σ H vs us Q I r h
  obtain ⟨a, l, rfl, ha, hL, q⟩ := h
  have R := setTO_get I ha
  have nd : l.Nodup := let ⟨_, _, _, n, _⟩ := R; n
  rw [Vals.ref1 r]
  refine sortedT R (I.ok.hd hc) hL fun s' p out c ys k g o hp hg hi hs hm => ?_
  have hlen : (ys.map V.str).length ≤ sizeLine := by rw [List.length_map, hm.length_eq]; exact hL
  have hn : H p = none := I.hok.fresh hp
  have J : Inv X pins σ (upd H p (.lst (ys.map V.str))) { s with heap := s'.heap, gens := s'.gens, drawn := s'.drawn, toks := s'.toks } :=
    I.call (ch := []) (Un.laid k hp hn) (I.hok.laid k hp ⟨hlen, out.toList, c, vals_of_strs hi, hg⟩) (by rw [g]; exact I.bare) (fun _ z => nomatch z)
  have e : s' = { s with heap := s'.heap, gens := s'.gens, drawn := s'.drawn, toks := s'.toks } := by
    cases s'
    cases s
    cases o
    rfl
  rw [e]
  exact ⟨.ref p, _, J, rfl, q ys p hm hs (hm.nodup_iff.mpr nd) hn⟩
end
end Cs

namespace Cs
open PySem PySem.Spec PyProof.Rows L2 PySem.Froz
section
variable {X : Cx}
/-- set.add of a text -/
theorem addT_ok {pins : List (Addr × Obj)} {σ : L2.St} {H : Hp} {s : Shared} {E : Value → Shared → Prop} {D : Addr} {l : List Str} {k : Str} {u : Tok} {Q : Value → Shared → Prop} (I : Inv X pins σ H s) (hD : H D = some (SetTO X.prog X.w D l)) (room : l.length + 1 < scanBound)
    (h : ∀ s' l', (∀ y, y ∈ l' ↔ y = k ∨ y ∈ l) → l'.length ≤ l.length + 1 → Inv X pins σ (upd H D (SetTO X.prog X.w D l')) s' → Q .none s') : wpAny (model X.prog X.w) X.A (call (.builtin "set.add") [.ref D, .str k u]) Q E s := by
  have R := setTO_get I hD
  refine SetT.call R room fun h' l' kp new hm hl => ?_
  have he : ∃ u, h'.get? D = some u := by
    have ⟨o, ho, _⟩ := new
    exact ⟨_, ho⟩
  exact h _ l' hm hl (I.write (e := D) (t' := s.toks + 1) (by rw [hD]; trivial) (.inl rfl) (fun b u hb hu => kp b u hb hu) he (setTO_new new))
end
/-! ### {elt for t1 in iter1 for t2 in iter2} -/
section
variable {prog : Program} {w : World} {A : Around} {R : Result → Shared → Prop} {s : Shared} {env : Env} {elt t1 t2 it1 it2 : Expr} {scope : Scope} {pos : Pos}
theorem compTurn_set2_in (it acc : Value) (env : Env) :
    compTurn (.SetComp elt [⟨t1, it1, [], 0⟩, ⟨t2, it2, [], 0⟩] scope pos) 1 it acc env = (do
      standAt it2.pos
      match ← pyNext it with
      | none => pure (.done .next)
      | some v =>
        letOwnedTupleGo t2 it v
        assign t2 env v
        (do let v ← eval elt env; standAt elt.pos; let _ ← call (.builtin "set.add") [acc, v])
        again (.compLoop (.SetComp elt [⟨t1, it1, [], 0⟩, ⟨t2, it2, [], 0⟩] scope pos) 1 it acc env)) := by rfl
theorem compTurn_set2_out (it acc : Value) (env : Env) :
    compTurn (.SetComp elt [⟨t1, it1, [], 0⟩, ⟨t2, it2, [], 0⟩] scope pos) 0 it acc env = (do
      standAt it1.pos
      match ← pyNext it with
      | none => pure (.done .next)
      | some v =>
        letOwnedTupleGo t1 it v
        assign t1 env v
        let x ← eval it2 env
        standAt it2.pos
        let x ← foldedSetIterable it2 env x
        let _ ← runOwn (.compStart (.SetComp elt [⟨t1, it1, [], 0⟩, ⟨t2, it2, [], 0⟩] scope pos) 1 (← holding [x] (pyIter x)) acc env) env
        again (.compLoop (.SetComp elt [⟨t1, it1, [], 0⟩, ⟨t2, it2, [], 0⟩] scope pos) 0 it acc env)) := by rfl
theorem compStart_set2 {acc it : Value} (d : Nat) (hd : d = 0 ∨ d = 1)
    (h0 : codeAny (model prog w) A (.compLoop (.SetComp elt [⟨t1, it1, [], 0⟩, ⟨t2, it2, [], 0⟩] scope pos) d it acc env) R s)
    (h : wpAny (model prog w) A (pyIter it) (fun it' s' => codeAny (model prog w) A (.compLoop (.SetComp elt [⟨t1, it1, [], 0⟩, ⟨t2, it2, [], 0⟩] scope pos) d it' acc env) R s')
      (notedBy (model prog w) A env fun x s' => R (.error x) s') s) :
    codeAny (model prog w) A (.compStart (.SetComp elt [⟨t1, it1, [], 0⟩, ⟨t2, it2, [], 0⟩] scope pos) d it acc env) R s := by
  refine codeAny_of_tree ?_
  show wpAny _ _ ((compStart (.SetComp elt [⟨t1, it1, [], 0⟩, ⟨t2, it2, [], 0⟩] scope pos) d it acc env).onRaise (fun x => do noteFrame x env; standAt theWindowsPlace)) _ _ s
  refine wpAny_notedAt ?_
  unfold compStart
  rcases hd with rfl | rfl
  all_goals
    show wpAny _ _ (ask >>= _) _ _ s
    refine wpAny_bind (wpAny_askSetting (wpAny_ite ?_))
    split
    · first
        | exact wpAny_bind (wpAny_pure (wpAny_pure (And.intro rfl h0)))
        | exact wpAny_pure (And.intro rfl h0)
    · first
        | exact wpAny_bind (wpAny_rule (wpAny_bind (wpAny_standAt (wpAny_bind (wpAny_mono h (fun it' s' h' => wpAny_pure (And.intro rfl h')) fun _ _ x => x)))))
        | (refine wpAny_bind (wpAny_rule ?_); show wpAny _ _ (standAt _ >>= _) _ _ s; exact wpAny_bind (wpAny_standAt (wpAny_bind (wpAny_mono h (fun it' s' h' => wpAny_pure (And.intro rfl h')) fun _ _ x => x))))
end
end Cs
namespace Cs
open PySem PySem.Spec PyProof.Rows L2 PySem.Froz
/-- the inner for's turns: a text is added to the set at D in each -/
def in2 (P : Program) (w : World) (D : Addr) (g : TG) (te : TE) (J : It) (Qe : L2.St → Hp → Prop) : L2.St → Hp → Prop := fun σ0 H0 => ∃ W : Nat → Nat → L2.St → Hp → Prop, (∃ m, W 0 m σ0 H0) ∧ ∀ i m σ H, W i m σ H →
  (J.stop i H ∧ Qe σ H) ∨ (J.go i H ∧ ∃ Nx : L2.St → Hp → Prop, (∀ σ' H', Nx σ' H' → ∃ m', m' < m ∧ W (i + 1) m' σ' H') ∧ ∀ x H', J.yld i H x H' → g x σ H' fun σ2 H2 =>
    te σ2 H2 fun y H3 => ∃ k l, y = .str k ∧ H3 D = some (SetTO P w D l) ∧ l.length + 1 < scanBound ∧ ∀ l', (∀ y, y ∈ l' ↔ y = k ∨ y ∈ l) → l'.length ≤ l.length + 1 → Nx σ2 (upd H3 D (SetTO P w D l')))
theorem sc2_in {Y : Cx} {pins : List (Addr × Obj)} {s : Shared} {σ : L2.St} {H : Hp} {elt t1 t2 it1 it2 : Expr} {scope : Scope} {pos : Pos} {g : TG} {te : TE} {R : Result → Shared → Prop} {D it : Addr} {fp : List Addr} {tn : Nat → Heap → Prop} {J : It} {Qe : L2.St → Hp → Prop}
    (hc : Y.calm = true) (hxe : Y.xe = fun _ _ => False) (T : Turn Y.prog Y.w Y.K t2 J fp it tn) (hg : PG Y t2 g) (he : PE Y elt te) (I : Inv Y pins σ H s) (st : tn 0 s.heap) (hf : ∀ b ∈ fp, FpOk Y pins H b)
    (h : in2 Y.prog Y.w D g te J Qe σ H) (hR : ∀ σ' H' s', Inv Y pins σ' H' s' → Qe σ' H' → R (.ok .next) s') :
    codeAny (model Y.prog Y.w) Y.A (.compLoop (.SetComp elt [⟨t1, it1, [], 0⟩, ⟨t2, it2, [], 0⟩] scope pos) 1 (.ref it) (.ref D) Y.env) R s := by
  obtain ⟨W, ⟨m0, w0⟩, turn⟩ := h
  have stat : ∀ {H' : Hp}, (∀ b ∈ fp, H' b = none) → ∀ b ∈ fp, FpOk Y pins H' b := fun hn b hb => ⟨hn b hb, (hf b hb).2⟩
  refine codeAny_loop rfl (fun n s' => ∃ i σ' H', Inv Y pins σ' H' s' ∧ tn i s'.heap ∧ (∀ b ∈ fp, H' b = none) ∧ W i n σ' H') ?_ m0 ⟨0, σ, H, I, st, fun b hb => (hf b hb).1, w0⟩
  rintro n s3 ⟨i, σ3, H3, I3, st3, fr3, w3⟩
  show wpAny _ Y.A ((compTurn (.SetComp elt [⟨t1, it1, [], 0⟩, ⟨t2, it2, [], 0⟩] scope pos) 1 (.ref it) (.ref D) Y.env).onRaise (fun x => do noteFrame x Y.env; theTreesLotGoes x)) _ _ s3
  refine wpAny_noted ?_
  rw [compTurn_set2_in]
  refine wpAny_bind (wpAny_standAt ?_)
  rcases turn i n σ3 H3 w3 with ⟨stop, qn⟩ | ⟨go, N, hN, step⟩
  · refine wpAny_bind (thnF (T.done Y rfl rfl rfl hc i pins s3 σ3 H3 (fun _ _ => False) I3 (stat fr3) st3 stop) fun r s4 ⟨hr, I4⟩ => ?_)
    subst hr
    exact wpAny_pure (hR _ _ _ I4 qn)
  · refine wpAny_bind (thnF (T.item Y rfl rfl rfl hc i pins s3 σ3 H3 (fun _ _ => False) I3 (stat fr3) st3 go) fun r s4 ⟨u, hr, h4⟩ => ?_)
    subst hr
    refine wpAny_bind (thnF h4 fun _ s5 ⟨x, H5, I5, r5, y5, st5, fr5⟩ => ?_)
    have I5' := I5.pinned (stat fr5) (T.obj _ _ st5)
    have e1 := hg.run _ s5 σ3 H5 x u _ I5' r5 (step x H5 y5)
    rw [hxe] at e1
    refine wpAny_bind (thnF e1 fun _ s6 ⟨σ6, H6, I6, q6⟩ => ?_)
    have e2 := he.run _ s6 σ6 H6 _ I6 q6
    rw [hxe] at e2
    refine wpAny_bind (wpAny_bind (thnF e2 fun z s7 ⟨yv, H7, I7, r7, k, l, ey, hD7, room, nx⟩ => ?_))
    subst ey
    obtain ⟨tk, rfl⟩ := (show ∃ t, z = Value.str k t from r7)
    refine wpAny_bind (wpAny_standAt ?_)
    refine wpAny_bind (addT_ok I7 hD7 room fun s8 l' hm hl I8 => ?_)
    refine wpAny_pure (wpAny_pure ⟨rfl, ?_⟩)
    obtain ⟨m', hm', w7⟩ := hN _ _ (nx l' hm hl)
    refine ⟨m', hm', i + 1, σ6, _, I8.unpinned, T.keep _ _ _ st5 fun b hb o e => (I8.pin (b, o) (List.mem_append_right _ (List.mem_append_right _ (mem_pinsAt hb e)))).1, fun b hb => ?_, w7⟩
    obtain ⟨o, e, d⟩ := T.obj _ _ st5 b hb
    exact (I8.pin (b, o) (List.mem_append_right _ (List.mem_append_right _ (mem_pinsAt hb e)))).2.1
end Cs
namespace Cs
open PySem PySem.Spec PyProof.Rows L2 PySem.Froz
section
variable {X : Cx}
/-- {elt for tg in iter for t2 in it2}, elt a text: D the new set -/
def tSc2 (P : Program) (w : World) (wi : TI) (g : TG) (wi2 : TI) (g2 : TG) (te : TE) (vs : List Nat) : TE := fun σ H Q => wi σ H fun J H1 => ∀ D, H1 D = none → ∃ W : Nat → Nat → Hp → Prop, (∃ m, W 0 m (upd H1 D (SetTO P w D []))) ∧ ∀ i m H, W i m H →
  (J.stop i H ∧ Q (.ref D) H) ∨ (J.go i H ∧ ∃ Nx : Hp → Prop, (∀ H', Nx H' → ∃ m', m' < m ∧ W (i + 1) m' H') ∧ ∀ x H', J.yld i H x H' → g x (wipe σ vs) H' fun σ2 H2 =>
    wi2 σ2 H2 fun J2 H3 => in2 P w D g2 te J2 (fun σ4 H4 => wipe σ4 vs = wipe σ vs ∧ Nx H4) σ2 H3)
theorem sc2_core {pins : List (Addr × Obj)} {s : Shared} {σ : L2.St} {H : Hp} {Q : VK} {elt tg iter t2 it2 : Expr} {scope : Scope} {own : List (PySem.Str × Nat)} {pos pos' : Pos} {wi : TI} {g : TG} {wi2 : TI} {g2 : TG} {te : TE} {use : Option (Value → Sem Unit)} {Qf : Value → Shared → Prop}
    (hc : X.calm = true) (hN : X.N.Nodup) (I : Inv X pins σ H s) (hi : PI X tg iter wi) (ok : BlkOk X.N X.env.scope scope own)
    (hg : ∀ (s : Shared) (H : Hp) (C : Addr) (cl : List (PySem.Str × Addr)) (fp : List Addr), PG (X.blk s H scope (compEnvC scope cl C X.env) fp) tg g)
    (hi2 : ∀ (s : Shared) (H : Hp) (C : Addr) (cl : List (PySem.Str × Addr)) (fp : List Addr), PI (X.blk s H scope (compEnvC scope cl C X.env) fp) t2 it2 wi2)
    (hg2 : ∀ (s : Shared) (H : Hp) (C : Addr) (cl : List (PySem.Str × Addr)) (fp : List Addr), PG (X.blk s H scope (compEnvC scope cl C X.env) fp) t2 g2)
    (he : ∀ (s : Shared) (H : Hp) (C : Addr) (cl : List (PySem.Str × Addr)) (fp : List Addr), PE (X.blk s H scope (compEnvC scope cl C X.env) fp) elt te) (hs : ∀ x, foldedSetIterable iter X.env x = pure x) (hs2 : ∀ env x, foldedSetIterable it2 env x = pure x)
    (h : tSc2 X.prog X.w wi g wi2 g2 te (own.map (·.2)) σ H Q)
    (hRR : ∀ D C s' m H', Inv X pins σ H' s' → Q (.ref D) H' → s'.heap.Ns C m → FpOk X pins H' C → compPost (model X.prog X.w) X.A X.xe use Qf (.ref D) C (.ok .next) s') :
    wpAny (model X.prog X.w) X.A (comprehension (.SetComp elt [⟨tg, iter, [], 0⟩, ⟨t2, it2, [], 0⟩] scope pos) scope X.env pos' (newSet (.type "set")) false (eval iter X.env) use) Qf X.xe s := by
  have hfree : ∀ y ∈ scope.names, y.2 = .free → ∃ c, X.env.cells.lookup y.1 = some c := fun y hy e => by
    rcases ok.free y hy e with k | k
    · exact I.ok.has _ (.inl k)
    · exact I.ok.has _ (.inr k)
  refine wpAny_comprehension_free (use := use) rfl hs (closure_ok hfree) ok.kind (fun y hy e => by rw [ok.uniq y hy, e])
    (thn (hi.run pins s σ H _ I h) fun xv s1 hx => thn hx fun itv s2 h2 => ?_)
  obtain ⟨it, fp, tn, J, H2, e, I2, T, st2, f2, q⟩ := h2
  subst e
  refine PpSet.newSet_ok (newEnv_comp ?_)
  generalize hD : s2.heap.objs.size = D
  have hDn : H2 D = none := I2.hok.fresh (Nat.le_of_eq hD)
  obtain ⟨W, ⟨m0, w0⟩, turn⟩ := q D hDn
  generalize hs3 : ({ s2 with heap := s2.heap.push { cls := .type "set", dict := none, data := .set #[] 0 (.fresh 0 0 (!X.w.params.followText "set-order")) } } : Shared) = s3
  have I3 : Inv X pins σ (upd H2 D (SetTO X.prog X.w D [])) s3 := by
    rw [← hs3]
    refine I2.laid (t' := s2.toks) (fun b o e => Heap.get?_push_of_some _ e) (Nat.le_of_eq hD) ?_
    rw [← hD]
    exact setTO_new (setT_fresh (Heap.get?_push_size _ rfl))
  have h3 : s3.heap = s2.heap.push { cls := .type "set", dict := none, data := .set #[] 0 (.fresh 0 0 (!X.w.params.followText "set-order")) } := by rw [← hs3]
  have sz : ∀ b ∈ fp, b < s2.heap.objs.size := fun b hb => by
    obtain ⟨o, e, _⟩ := T.obj _ _ st2 b hb
    exact Heap.lt_size e
  have f3 : ∀ b ∈ fp, FpOk X pins (upd H2 D (SetTO X.prog X.w D [])) b ∧ b < s3.heap.objs.size := fun b hb => by
    have hlt := sz b hb
    refine ⟨⟨?_, (f2 b hb).2⟩, by rw [h3, Heap.size_push]; exact Nat.lt_succ_of_lt hlt⟩
    rw [upd_ne (by rw [← hD]; exact Nat.ne_of_lt hlt)]
    exact (f2 b hb).1
  have st3 : tn 0 s3.heap := T.keep _ _ _ st2 fun b _ o e => by rw [h3]; exact Heap.get?_push_of_some _ e
  have I4 := block_start I3 ok hN f3
  have pg := hg s3 (upd H2 D (SetTO X.prog X.w D [])) s3.heap.objs.size (cellsFrom (s3.heap.objs.size + 1) scope.names (cloFrom X.env.cells scope.names [])) fp
  have pi2 := hi2 s3 (upd H2 D (SetTO X.prog X.w D [])) s3.heap.objs.size (cellsFrom (s3.heap.objs.size + 1) scope.names (cloFrom X.env.cells scope.names [])) fp
  have pg2 := hg2 s3 (upd H2 D (SetTO X.prog X.w D [])) s3.heap.objs.size (cellsFrom (s3.heap.objs.size + 1) scope.names (cloFrom X.env.cells scope.names [])) fp
  have pe := he s3 (upd H2 D (SetTO X.prog X.w D [])) s3.heap.objs.size (cellsFrom (s3.heap.objs.size + 1) scope.names (cloFrom X.env.cells scope.names [])) fp
  show codeAny _ _ (.compStart (.SetComp elt [⟨tg, iter, [], 0⟩, ⟨t2, it2, [], 0⟩] scope pos) 0 (.ref it) (.ref D) (compEnvC scope (cellsFrom (s3.heap.objs.size + 1) scope.names (cloFrom X.env.cells scope.names [])) s3.heap.objs.size X.env)) (compPost (model X.prog X.w) X.A X.xe use Qf (.ref D) s3.heap.objs.size) { s3 with heap := pushCells (s3.heap.push { cls := .type "dict", data := .dict #[] }) scope.names }
  have nfp : ∀ b ∈ fp, (upd H2 D (SetTO X.prog X.w D [])) b = none := fun b hb => (f3 b hb).1.1
  generalize hce : compEnvC scope (cellsFrom (s3.heap.objs.size + 1) scope.names (cloFrom X.env.cells scope.names [])) s3.heap.objs.size X.env = ce at I4 pg pi2 pg2 pe ⊢
  have cL : ce.locals = s3.heap.objs.size := by subst hce; rfl
  generalize hH3 : upd H2 D (SetTO X.prog X.w D []) = H3 at I3 I4 pg pi2 pg2 pe w0 nfp f3
  generalize hs4 : ({ s3 with heap := pushCells (s3.heap.push { cls := .type "dict", data := .dict #[] }) scope.names } : Shared) = s4 at I4 ⊢
  have st4 : tn 0 s4.heap := T.keep _ _ _ st3 fun b _ o e => by rw [← hs4]; exact pushCells_keeps _ _ _ _ (Heap.get?_push_of_some _ e)
  have stat : ∀ {σ' : L2.St} {H' : Hp} {s' : Shared}, Inv (X.blk s3 H3 scope ce fp) [] σ' H' s' → (∀ b ∈ fp, H' b = none) → ∀ b ∈ fp, FpOk (X.blk s3 H3 scope ce fp) [] H' b := fun {σ' H' s'} I' hn b hb =>
    ⟨hn b hb, (I'.ok.exf b hb).1, I'.ok.exfs b hb, .inl hb, fun x c e => (I'.ok.exf b hb).2 x c e, fun p hp => absurd (show p ∈ ([] : List (Addr × Obj)) ++ [] from hp) (by simp)⟩
  have loop : codeAny (model X.prog X.w) X.A (.compLoop (.SetComp elt [⟨tg, iter, [], 0⟩, ⟨t2, it2, [], 0⟩] scope pos) 0 (.ref it) (.ref D) ce) (compPost (model X.prog X.w) X.A X.xe use Qf (.ref D) s3.heap.objs.size) s4 := by
    refine codeAny_loop rfl (fun n s' => ∃ i H', Inv (X.blk s3 H3 scope ce fp) [] (wipe σ (own.map (·.2))) H' s' ∧ tn i s'.heap ∧ (∀ b ∈ fp, H' b = none) ∧ W i n H') ?_ m0 ⟨0, H3, I4, st4, nfp, w0⟩
    rintro n s5 ⟨i, H5, I5, st5, n5, w5⟩
    show wpAny _ X.A ((compTurn (.SetComp elt [⟨tg, iter, [], 0⟩, ⟨t2, it2, [], 0⟩] scope pos) 0 (.ref it) (.ref D) ce).onRaise (fun x => do noteFrame x ce; theTreesLotGoes x)) _ _ s5
    refine wpAny_noted ?_
    rw [compTurn_set2_out]
    refine wpAny_bind (wpAny_standAt ?_)
    rcases turn i n H5 w5 with ⟨stop, qq⟩ | ⟨go, Nx, hNx, step⟩
    · have td := T.done (X.blk s3 H3 scope ce fp) rfl rfl rfl hc i [] s5 _ H5 (fun _ _ => False) I5 (stat I5 n5) st5 stop
      refine wpAny_bind (thnF td fun r s6 ⟨hr, I6⟩ => ?_)
      subst hr
      have I7 : Inv X pins σ H5 s6 := I3.call' (ch := fp) I6.os I6.base I6.hok I6.bare fun b hb => ⟨(f3 b hb).1.2.2.2.1, (f3 b hb).1.2.1, (f3 b hb).1.2.2.2.2.1, (f3 b hb).1.2.2.2.2.2⟩
      have nC : H5 s3.heap.objs.size = none := by
        have z : H5 ce.locals = none := I6.free
        rw [cL] at z
        exact z
      obtain ⟨m, hn, _⟩ := I6.loc
      have hn : s6.heap.Ns ce.locals m := hn
      rw [cL] at hn
      exact wpAny_pure (hRR D s3.heap.objs.size s6 m H5 I7 qq hn (I3.fpOk (Nat.le_refl _) nC))
    · have ti := T.item (X.blk s3 H3 scope ce fp) rfl rfl rfl hc i [] s5 _ H5 (fun _ _ => False) I5 (stat I5 n5) st5 go
      refine wpAny_bind (thnF ti fun r s6 ⟨u, hr, h6⟩ => ?_)
      subst hr
      refine wpAny_bind (thnF h6 fun _ s7 ⟨x, H7, I7, r7, y7, st7, n7⟩ => ?_)
      have I7' := I7.pinned (stat I7 n7) (T.obj _ _ st7)
      refine wpAny_bind (thnF (pg.run _ s7 _ H7 x u _ I7' r7 (step x H7 y7)) fun _ s8 ⟨σ8, H8, I8, q8⟩ => ?_)
      refine wpAny_bind (thnF (pi2.run _ s8 σ8 H8 _ I8 q8) fun xv2 s9 q9 => ?_)
      refine wpAny_bind (wpAny_standAt ?_)
      rw [hs2]
      refine wpAny_bind (wpAny_pure ?_)
      refine wpAny_bind (wpAny_holding (thnF q9 fun itv2 s10 q10 => ?_))
      obtain ⟨itb, fp2, tn2, J2, H10, e10, I10, T2, st10, f10, qin⟩ := q10
      subst e10
      have fin : ∀ {s' : Shared} {σ' : L2.St} {H' : Hp}, Inv (X.blk s3 H3 scope ce fp) ([] ++ pinsAt fp s7.heap) σ' H' s' → wipe σ' (own.map (·.2)) = wipe σ (own.map (·.2)) → Nx H' → ∃ m, m < n ∧ ∃ i H', Inv (X.blk s3 H3 scope ce fp) [] (wipe σ (own.map (·.2))) H' s' ∧ tn i s'.heap ∧ (∀ b ∈ fp, H' b = none) ∧ W i m H' := fun {s' σ' H'} I' hw8 nx => by
        obtain ⟨m', hm, w'⟩ := hNx H' nx
        have pin' : ∀ b ∈ fp, ∀ o, s7.heap.get? b = some o → s'.heap.get? b = some o ∧ H' b = none := fun b hb o e =>
          let z := I'.pin (b, o) (List.mem_append_right _ (List.mem_append_right _ (mem_pinsAt hb e)))
          ⟨z.1, z.2.1⟩
        have hl : (wipe σ (own.map (·.2))).length = σ'.length := by rw [← hw8, wipe_length]
        refine ⟨m', hm, i + 1, H', (I'.unpinned (pins := [])).weak hl (fun j v e => ?_), T.keep _ _ _ st7 fun b hb o e => (pin' b hb o e).1, fun b hb => ?_, w'⟩
        · rw [← hw8] at e
          exact (wipe_some e).1
        · obtain ⟨o, e, _⟩ := T.obj _ _ st7 b hb
          exact (pin' b hb o e).2
      have lin := sc2_in (Y := X.blk s3 H3 scope ce fp) (t1 := tg) (it1 := iter) (it2 := it2) (scope := scope) (pos := pos) (R := fun r s' => match r with
        | .ok f => wpAny (model X.prog X.w) X.A (again (.compLoop (.SetComp elt [⟨tg, iter, [], 0⟩, ⟨t2, it2, [], 0⟩] scope pos) 0 (.ref it) (.ref D) ce)) (fun fin s' => match fin with | .done f => compPost (model X.prog X.w) X.A X.xe use Qf (.ref D) s3.heap.objs.size (.ok f) s' | .again c' => c' = (.compLoop (.SetComp elt [⟨tg, iter, [], 0⟩, ⟨t2, it2, [], 0⟩] scope pos) 0 (.ref it) (.ref D) ce) ∧ ∃ m, m < n ∧ ∃ i H', Inv (X.blk s3 H3 scope ce fp) [] (wipe σ (own.map (·.2))) H' s' ∧ tn i s'.heap ∧ (∀ b ∈ fp, H' b = none) ∧ W i m H') (fun _ _ => False) s'
        | .error _ => False) hc rfl T2 pg2 pe I10 st10 f10 qin (fun σ' H' s' I' ⟨hw', nx'⟩ => wpAny_pure ⟨rfl, fin I' hw' nx'⟩)
      refine wpAny_bind (wpAny_runOwn (h := none) ?_)
      refine codeAny_mono (compStart_set2 1 (.inr rfl) lin (T2.self _ 0 _ _ _ st10 lin)) fun r s' hr => ?_
      cases r with
      | ok f => exact wpAny_mono hr (fun fin s'' h => h) fun _ _ h => h.elim
      | error e => exact hr.elim
  exact compStart_set2 0 (.inl rfl) loop (T.self X.A 0 _ _ _ st4 loop)
end
end Cs
namespace Cs
open PySem PySem.Spec PyProof.Rows L2 PySem.Froz
section
variable {X : Cx}
/-- as a value -/
theorem pe_sc2 {elt tg iter t2 it2 : Expr} {scope : Scope} {own : List (PySem.Str × Nat)} {pos : Pos} {wi : TI} {g : TG} {wi2 : TI} {g2 : TG} {te : TE} (hc : X.calm = true) (hN : X.N.Nodup) (hi : PI X tg iter wi) (ok : BlkOk X.N X.env.scope scope own)
    (hg : ∀ (s : Shared) (H : Hp) (C : Addr) (cl : List (PySem.Str × Addr)) (fp : List Addr), PG (X.blk s H scope (compEnvC scope cl C X.env) fp) tg g)
    (hi2 : ∀ (s : Shared) (H : Hp) (C : Addr) (cl : List (PySem.Str × Addr)) (fp : List Addr), PI (X.blk s H scope (compEnvC scope cl C X.env) fp) t2 it2 wi2)
    (hg2 : ∀ (s : Shared) (H : Hp) (C : Addr) (cl : List (PySem.Str × Addr)) (fp : List Addr), PG (X.blk s H scope (compEnvC scope cl C X.env) fp) t2 g2)
    (he : ∀ (s : Shared) (H : Hp) (C : Addr) (cl : List (PySem.Str × Addr)) (fp : List Addr), PE (X.blk s H scope (compEnvC scope cl C X.env) fp) elt te) (hs : ∀ x, foldedSetIterable iter X.env x = pure x := by intro _; rfl) (hs2 : ∀ env x, foldedSetIterable it2 env x = pure x := by intro _ _; rfl) :
    PE X (.SetComp elt [⟨tg, iter, [], 0⟩, ⟨t2, it2, [], 0⟩] scope pos) (tSc2 X.prog X.w wi g wi2 g2 te (own.map (·.2))) := by
  refine ⟨fun pins s σ H Q I h => ?_⟩
  rw [PpSet.eval_SetComp]
  refine sc2_core hc hN I hi ok hg hi2 hg2 he hs hs2 h fun D C s' m H' I' q hn f => ⟨m, hn, fun h'' sb => ?_⟩
  obtain ⟨f0, f1, f2, f3, f4, f5⟩ := f
  exact ⟨.ref D, H', I'.turned (t' := s'.toks) (fun b o hb e => (sb.2 b hb).trans e) f0 f1 f3 f4 f5, rfl, q⟩
end
end Cs
namespace Cs
open PySem PySem.Spec PyProof.Rows L2 PySem.Froz
/-- the inner for over a tuple -/
theorem in2_tup {P : Program} {w : World} {K : PySem.W.Frag} {a D : Addr} {xs : List V} {g : TG} {te : TE} {Qe : L2.St → Hp → Prop} {σ0 : L2.St} {H0 : Hp} (Pv : Nat → L2.St → Hp → Prop) (h0 : Pv 0 σ0 H0) (hl : ∀ i σ H, i ≤ xs.length → Pv i σ H → SqT K H a xs)
    (hs : ∀ i x σ H, xs[i]? = some x → Pv i σ H → g x σ H fun σ2 H2 => te σ2 H2 fun y H3 => ∃ k l, y = .str k ∧ H3 D = some (SetTO P w D l) ∧ l.length + 1 < scanBound ∧ ∀ l', (∀ y, y ∈ l' ↔ y = k ∨ y ∈ l) → l'.length ≤ l.length + 1 → Pv (i + 1) σ2 (upd H3 D (SetTO P w D l')))
    (hd : ∀ σ H, Pv xs.length σ H → Qe σ H) : in2 P w D g te (Itt K a) Qe σ0 H0 := by
  refine ⟨fun i m σ H => m = xs.length - i ∧ i ≤ xs.length ∧ Pv i σ H, ⟨xs.length, by simp, Nat.zero_le _, h0⟩, ?_⟩
  rintro i m σ H ⟨rfl, hi, p⟩
  have q := hl i σ H hi p
  by_cases hlt : i < xs.length
  · refine .inr ⟨⟨xs, xs[i], q, by simp [hlt]⟩, Pv (i + 1), fun σ' H' p' => ⟨xs.length - (i + 1), by omega, rfl, hlt, p'⟩, fun x H' y => ?_⟩
    obtain ⟨e, y⟩ := y
    subst e
    exact hs i x σ _ (y xs q) p
  · have e : i = xs.length := by omega
    subst e
    exact .inl ⟨⟨xs, q, Nat.le_refl _⟩, hd σ H p⟩
/-- the outer for over a tuple -/
theorem sc2_tup {P : Program} {w : World} {K : PySem.W.Frag} {a : Addr} {xs : List V} {g g2 : TG} {wi2 : TI} {te : TE} {vs : List Nat} {σ : L2.St} {H1 : Hp} {D : Addr} {Qd : Hp → Prop} (Pv : Nat → Hp → Prop) (h0 : Pv 0 (upd H1 D (SetTO P w D []))) (hl : ∀ i H, i ≤ xs.length → Pv i H → SqT K H a xs)
    (hs : ∀ i x H, xs[i]? = some x → Pv i H → g x (wipe σ vs) H fun σ2 H2 => wi2 σ2 H2 fun J2 H3 => in2 P w D g2 te J2 (fun σ4 H4 => wipe σ4 vs = wipe σ vs ∧ Pv (i + 1) H4) σ2 H3) (hd : ∀ H, Pv xs.length H → Qd H) :
    ∃ W : Nat → Nat → Hp → Prop, (∃ m, W 0 m (upd H1 D (SetTO P w D []))) ∧ ∀ i m H, W i m H →
      ((Itt K a).stop i H ∧ Qd H) ∨ ((Itt K a).go i H ∧ ∃ Nx : Hp → Prop, (∀ H', Nx H' → ∃ m', m' < m ∧ W (i + 1) m' H') ∧ ∀ x H', (Itt K a).yld i H x H' → g x (wipe σ vs) H' fun σ2 H2 =>
        wi2 σ2 H2 fun J2 H3 => in2 P w D g2 te J2 (fun σ4 H4 => wipe σ4 vs = wipe σ vs ∧ Nx H4) σ2 H3) := by
  refine ⟨fun i m H => m = xs.length - i ∧ i ≤ xs.length ∧ Pv i H, ⟨xs.length, by simp, Nat.zero_le _, h0⟩, ?_⟩
  rintro i m H ⟨rfl, hi, p⟩
  have q := hl i H hi p
  by_cases hlt : i < xs.length
  · refine .inr ⟨⟨xs, xs[i], q, by simp [hlt]⟩, Pv (i + 1), fun H' p' => ⟨xs.length - (i + 1), by omega, rfl, hlt, p'⟩, fun x H' y => ?_⟩
    obtain ⟨e, y⟩ := y
    subst e
    exact hs i x _ (y xs q) p
  · have e : i = xs.length := by omega
    subst e
    exact .inl ⟨⟨xs, q, Nat.le_refl _⟩, hd H p⟩
end Cs

namespace Cs
open PySem PySem.Spec PyProof.Rows L2 PySem.Froz
/-! ### set(xs), xs a list of texts -/
section
variable {P : Program} {w : World} {A : Around} {E : Value → Shared → Prop} {s : Shared} {a : Addr} {l : List Str}
/-- setAdd of a text, hashed already -/
theorem SetT.hashed {k : Str} {u : Tok} {Q : Bool → Shared → Prop} (R : SetT P w s.heap a l) (room : l.length + 1 < scanBound)
    (hQ : ∀ b h' l', (∀ b o, b ≠ a → s.heap.get? b = some o → h'.get? b = some o) → SetT P w h' a l' → (∀ y, y ∈ l' ↔ y = k ∨ y ∈ l) → l'.length ≤ l.length + 1 → Q b { s with heap := h' }) :
    wpAny (model P w) A (setAddHashed a (.str k u) (hashStr w k)) Q E s := by
  by_cases hk : k ∈ l
  · exact SetT.old R hk (hQ false s.heap l (fun _ _ _ e => e) R (fun y => ⟨.inr, fun h => h.elim (fun e => by rw [e]; exact hk) id⟩) (Nat.le_succ _))
  · obtain ⟨D, ho, F, _⟩ := id R
    exact add_x ho F hk room (hQ _ _ (k :: l) (fun b o hne e => (Heap.get?_update_other _ _ (Ne.symm hne)).trans e) (R.add u hk room D ho) (fun y => List.mem_cons) (Nat.le_refl _))
/-- the turns of set.update over texts ks: what has been met -/
theorem upd_strs {I : Addr} {fp wr : List Addr} {G : Array GenState → Array GenState → Prop} {n : Nat} {Pv : Nat → Value → Prop} {St : Nat → Shared → Prop} {R : Result → Shared → Prop}
    (W : WalksS P w A.in1 I fp wr G n Pv St) (S : Addr) (hSf : S ∉ fp) (ks : List Str) (hn : n = ks.length) (hb : ks.length + 1 < scanBound) (hval : ∀ i v, Pv i v → ∃ k t, ks[i]? = some k ∧ v = .str k t) :
    ∀ (m i : Nat) (s : Shared), n - i = m → i ≤ n → St i s → (∃ c, c.length ≤ i ∧ (∀ y, y ∈ c ↔ y ∈ ks.take i) ∧ SetT P w s.heap S c) →
      (∀ s' c, Moved (S :: wr) G s s' → c.length ≤ n → (∀ y, y ∈ c ↔ y ∈ ks) → SetT P w s'.heap S c → R (.ok (.ret .none)) s') →
      codeAny (model P w) A (.builtin "set.update.loop" ⟨[.ref S, .ref I], []⟩) R s := by
  have out : S ∉ wr := fun z => hSf (W.sub _ z)
  have wide : ∀ b ∈ wr, b ∈ S :: wr := fun b z => List.mem_cons_of_mem _ z
  intro m
  induction m with
  | zero =>
    rintro i s em hi st ⟨c, c1, c2, c3⟩ fin
    obtain rfl : i = n := by omega
    refine codeAny_builtin F.entry_set_update_loop ?_
    rw [Around.under_plainId F.plain_set_update_loop _]
    show wpAny _ A.in1 (pyNext (.ref I) >>= _) _ _ s
    refine wpAny_bind (W.done s _ _ st fun s' mv => ?_)
    show wpAny _ A.in1 (ret Value.none) _ _ s'
    rw [List.take_of_length_le (by omega)] at c2
    exact wpAny_pure (fin s' c (mv.mono wide) c1 c2 (c3.at fun o e => mv.heap S o out e))
  | succ m ih =>
    rintro i s em hi st ⟨c, c1, c2, c3⟩ fin
    have lt : i < n := by omega
    refine codeAny_builtin F.entry_set_update_loop ?_
    rw [Around.under_plainId F.plain_set_update_loop _]
    show wpAny _ A.in1 (pyNext (.ref I) >>= _) _ _ s
    refine wpAny_bind (W.item i s _ _ lt st fun v s' pv st' mv => ?_)
    obtain ⟨k, t, hk, rfl⟩ := hval i v pv
    show wpAny _ A.in1 (holding [Value.str k t] (setAdd S (.str k t)) >>= _) _ _ s'
    refine wpAny_bind (wpAny_holding ?_)
    unfold setAdd
    refine wpAny_holding (wpAny_bind ((strKind P w).pyHash (is_str k t) ?_))
    have c3' : SetT P w s'.heap S c := c3.at fun o e => mv.heap S o out e
    refine SetT.hashed (s := { s' with toks := s'.toks + 1 }) c3' (by omega) fun b h' l' kp new hm hl => ?_
    refine wpAny_pure ⟨plainId_quiet F.plain_set_update_loop _, ih (i + 1) _ (by omega) lt (W.frame _ s' _ _ st' (Nat.le_succ _) fun b hb o e => ?_) ⟨l', by omega, fun y => ?_, new⟩ fun s'' c'' mv' d1 d2 d3 => ?_⟩
    · exact kp b o (fun z => hSf (by rw [← z]; exact hb)) e
    · rw [hm y, c2 y, List.take_add_one, hk, List.mem_append]
      simp [or_comm]
    · refine fin s'' c'' (Moved.trans W.gtrans ((mv.mono wide).then_heap (Nat.le_succ _) fun b o hb e => ?_) mv') d1 d2 d3
      exact kp b o (fun z => hb (by rw [z]; exact List.mem_cons_self)) e
end
end Cs
namespace Cs
open PySem PySem.Spec PyProof.Rows L2 PySem.Froz
/-- a new set -/
def nuSet (w : World) : Obj := { cls := .type "set", dict := none, data := .set #[] 0 (.fresh 0 0 (!w.params.followText "set-order")) }
section
variable {P : Program} {w : World} {A : Around} {E : Value → Shared → Prop} {s : Shared}
theorem strs_at : ∀ {vs : List Value} {ks : List Str}, StrsAre vs ks → ∀ (i : Nat) (v : Value), vs[i]? = some v → ∃ (k : Str) (t : Tok), ks[i]? = some k ∧ v = Value.str k t
  | _, _, .nil, i, v, h => by simp at h
  | _, _, .cons k t r, 0, v, h => by simp at h; exact ⟨k, t, rfl, h.symm⟩
  | _, _, .cons k t r, i + 1, v, h => by
    rw [List.getElem?_cons_succ] at h
    obtain ⟨k', t', e, e'⟩ := strs_at r i v h
    exact ⟨k', t', by rw [List.getElem?_cons_succ]; exact e, e'⟩
theorem strs_vals : ∀ {ks : List Str} {us : List Value}, Vals (ks.map V.str) us → StrsAre us ks
  | [], _, .nil => .nil
  | k :: ks, _, .cons r t => by
    obtain ⟨tk, rfl⟩ := r
    exact .cons k tk (strs_vals t)
theorem set_of_strs {l : Addr} {items : Array Value} (ks : List Str) {Q : Value → Shared → Prop} (hh : A.handled = none) (hl : s.heap.IsList l items) (hit : StrsAre items.toList ks) (room : ks.length + 1 < scanBound)
    (h : ∀ (h' : Heap) (tk : Nat) c, SetT P w h' s.heap.objs.size c → c.length ≤ ks.length → (∀ y, y ∈ c ↔ y ∈ ks) → (∀ b o, s.heap.get? b = some o → h'.get? b = some o) → Q (.ref s.heap.objs.size) { s with heap := h', toks := tk }) :
    wpAny (model P w) A (call (.type "set") [.ref l]) Q E s := by
  have many : items.size = ks.length := by rw [← Array.length_toList]; exact hit.length
  obtain ⟨c, tl, hmro⟩ := F.called_set.mro
  have hmade := F.called_set.made
  have hsub := F.called_set.sub
  refine wpAny_call (codeAny_of_tree ?_)
  show wpAny _ _ (callAny (.type "set") _) _ _ _
  refine wpAny_pure ⟨Code.quiet_builtin _ (by decide +kernel), codeAny_builtin F.entry_type_call ?_⟩
  rw [Around.under_plain (weight_type_call_type "set" [.ref l] []) rfl]
  have h1 := F.called_set.notType
  have h2 := F.called_set.canCreate
  have hct := F.typeCall_set_1 (.ref l)
  repeat (any_goals (first | assumption | wp_step))
  refine codeAny_mono (code_set_led1 (.ref l) (E := E) (Q₁ := fun v t => v = .ref s.heap.objs.size ∧ t = { s with heap := s.heap.push (nuSet w) }) ⟨rfl, rfl⟩) fun r t hr => ?_
  cases r with
  | error e => exact hr
  | ok fl =>
    cases fl with
    | ret v =>
      obtain ⟨rfl, rfl⟩ := hr
      have new : (s.heap.push (nuSet w)).get? s.heap.objs.size = some (nuSet w) := Heap.get?_push_size _ rfl
      have ty : Shared.TypeIs { s with heap := s.heap.push (nuSet w) } (.ref s.heap.objs.size) "set" := ⟨_, new, rfl⟩
      have hli := F.called_set.init.lookup
      have hbi := F.called_set.init.bind (.ref s.heap.objs.size)
      repeat (any_goals (first | assumption | wp_step))
      refine codeAny_mono (codeAny_call_builtin (R := wants (fun r s₂ => r = .none ∧ ∃ h' tk c, s₂ = { s with heap := h', toks := tk } ∧ SetT P w h' s.heap.objs.size c ∧ c.length ≤ ks.length ∧ (∀ y, y ∈ c ↔ y ∈ ks) ∧
          (∀ b o, s.heap.get? b = some o → h'.get? b = some o)) E) F.called_set.init.plain F.entry_set_init (check_set_init_1 ty ?_)) fun r₂ s₂ hr₂ => ?_
      · obtain ⟨ol, hol, hcl, nl, hdl⟩ := hl
        obtain ⟨ocls, odict, odata, oslots⟩ := ol
        simp only at hcl hdl
        subst hcl; subst hdl
        have sz : (s.heap.push (nuSet w)).objs.size = s.heap.objs.size + 1 := Heap.size_push ..
        have hol' : (s.heap.push (nuSet w)).get? l = some { cls := .type "list", dict := odict, data := .seq items nl, slots := oslots } := Heap.get?_push_of_some _ hol
        have hsls := F.sub_list_set
        have hslf := F.sub_list_frozenset
        have hne : (Value.type "list" == Value.type "dict") = false := by decide
        have hl1 : (s.heap.push (nuSet w)).IsList l items := ⟨_, hol', rfl, nl, rfl⟩
        unfold Builtin.«set.__init__» noKeywords Builtin.Frozenset.updateFrom
        generalize hPI : pyIter = PI
        wp_walk
        subst hPI
        refine wpAny_pyIter_list hl1 (wpAny_bind (wpAny_runValue ?_))
        have lt : l < s.heap.objs.size := Heap.lt_size hol
        have hh3 : A.in1.in1.in1.handled = none := by simp [hh]
        have neI : l ≠ (s.heap.push (nuSet w)).objs.size := by rw [sz]; exact Nat.ne_of_lt (Nat.lt_succ_of_lt lt)
        have apart : s.heap.objs.size ∉ [(s.heap.push (nuSet w)).objs.size, l] := by
          rw [sz]
          simp only [List.mem_cons, List.not_mem_nil, or_false, not_or]
          exact ⟨Nat.ne_of_lt (Nat.lt_succ_self _), Nat.ne_of_gt lt⟩
        refine upd_strs ((Walks.list hh3 _ l neI items).toS) s.heap.objs.size apart ks many room (fun i v hv => strs_at hit i v (by rw [Array.getElem?_toList]; exact hv)) (items.size - 0) 0 _ (by omega) (Nat.zero_le _)
          ⟨⟨_, Heap.get?_push_size _ rfl, rfl, rfl⟩, (hl1.push _)⟩ ⟨[], Nat.zero_le _, fun y => by simp, setT_fresh (Heap.get?_push_of_some _ new)⟩ fun s' c' mv d1 d2 d3 => ?_
        obtain ⟨h', g2, dr, tk', os'⟩ := s'
        obtain rfl : g2 = s.gens := mv.gens
        obtain rfl : dr = s.drawn := mv.drawn
        obtain rfl : os' = s.os := mv.os
        show wpAny _ _ _ _ _ _
        refine wpAny_pure ?_
        show wpAny _ _ (ret Value.none) _ _ _
        refine wpAny_pure ⟨rfl, h', tk', c', rfl, d3, by omega, d2, fun b o e => ?_⟩
        have hb0 : b < s.heap.objs.size := Heap.lt_size e
        exact mv.heap b o (by rw [sz]; simp only [List.mem_cons, List.not_mem_nil, or_false, not_or]; exact ⟨Nat.ne_of_lt hb0, Nat.ne_of_lt (Nat.lt_succ_of_lt hb0)⟩) (Heap.get?_push_of_some _ (Heap.get?_push_of_some _ e))
      · cases r₂ with
        | error e => exact hr₂
        | ok fl₂ =>
          cases fl₂ with
          | ret r =>
            obtain ⟨rfl, h', tk, c', rfl, d1, d2, d3, d4⟩ := hr₂
            repeat (any_goals (first | assumption | wp_step))
            exact h _ _ _ d1 d2 d3 d4
          | _ => exact hr₂.elim
    | _ => exact hr.elim
end
section
variable {X : Cx}
/-- set(xs), xs a list of texts -/
def rSetOfS (K : PySem.W.Frag) (P : Program) (w : World) : List V → Hp → VK → Prop := fun xs H Q => ∃ (l : Addr) (ks : List Str), xs = [V.ref l] ∧ SqL K H l (ks.map V.str) ∧ ks.length + 1 < scanBound ∧
  ∀ a c, H a = none → c.length ≤ ks.length → (∀ y, y ∈ c ↔ y ∈ ks) → Q (.ref a) (upd H a (SetTO P w a c))
theorem cr_setOfS (hc : X.calm = true) : CallR X (.type "set") (rSetOfS X.K X.prog X.w) := by
  intro pins s σ H xs us Q I r h
  obtain ⟨l, ks, rfl, hl, hb, q⟩ := h
  rw [Vals.ref1 r]
  obtain ⟨its, rv, pl, hz⟩ := I.list hl
  refine set_of_strs (P := X.prog) (w := X.w) ks (I.ok.hd hc) pl.isList (by simpa using strs_vals rv) hb fun h' tk c R d1 d2 k => ?_
  exact ⟨.ref s.heap.objs.size, upd H s.heap.objs.size (SetTO X.prog X.w s.heap.objs.size c), I.laid (t' := tk) k (Nat.le_refl _) (setTO_new R), rfl, q _ c (I.hok.fresh (Nat.le_refl _)) d1 d2⟩
end
end Cs

namespace Cs
open PySem PySem.Spec PyProof.Rows L2
/-! ### repr of lists and tuples; it asks which reprs run, so the place of the call must be known -/
section
variable {X : Cx}
def rRepr (K : PySem.W.Frag) : List V → Hp → VK → Prop := fun xs H Q => ∃ (a : Addr) (d : PyData), xs = [V.ref a] ∧ Dp K H (.ref a) d ∧ d.showable = true ∧ d.hasDict = false ∧ d.depth ≤ 60 ∧ d.shown.length ≤ sizeLine ∧ Q (.str d.shown) H
theorem cr_repr (hg : X.A.guards = some []) (hu : X.A.units + 64 < cLine) : CallR X (.builtin "repr") (rRepr X.K) := by
  intro pins s σ H xs us Q I r h
  obtain ⟨a, d, rfl, hd, h1, h2, h3, h4, q⟩ := h
  rw [Vals.ref1 r]
  obtain ⟨as, rd⟩ := Dp.reads I d (.ref a) (.ref a) hd rfl
  refine repr_of_reads' rd h1 (fun z => by rw [h2] at z; cases z) hg (by omega) (fun _ _ e => e) (fun h' u tk hk => ?_) h4
  exact ⟨.str d.shown, H, I.kept (t' := tk) hk, ⟨_, rfl⟩, q⟩
end
/-- a def that keeps a promise where the law is called -/
structure FnG (P : Program) (w : World) (K : PySem.W.Frag) (mg : Str → Option Value) (base : Heap) (f : Addr) (fd : FuncData) (ps : List Str) (sp : Sp) : Prop where
  run : ∀ (s : Shared) (H : Hp) (args : Args) (us : List Value) (vs : List V) (Q : VK) (E : XK), Env0 P w K mg base callerA [] s H → BindsTo s fd args (ps.zip us) → Vals vs us → sp vs H Q E → codeAny (model P w) callerA (.call (.ref f) args) (CR CX0 [] P w H s Q E) s
section
variable {P : Program} {w : World} {K : PySem.W.Frag} {mg : Str → Option Value} {base : Heap}
theorem fn_law {k : Nat} {x : Str} {st : Stmt} {f : Addr} {fd : FuncData} {N ps : List Str} {sp : Sp} (F : Fun K x x st f fd) (S : FnScope N ps (defScope st)) (room : Room (k + 1) callerA) (len : ∀ vs H Q E, sp vs H Q E → vs.length = ps.length)
    (hbody : ∀ (cdv : Value) (A : Around) (s : Shared) (H : Hp) (vs : List V) (Q : VK) (E : XK), A.guards = some [] → Room k (A.deeper (envOfC x (defScope st) s.heap.objs.size f cdv)) → sp vs H Q E →
      ∃ t, PSs (cxOf CX0 P w K mg base N x (defScope st) f cdv A [] s H E).nox (defBody st) t ∧ t { nx := fun _ H' => Q .non H', rt := Q } (start N vs) H) : FnG P w K mg base f fd ps sp := by
  obtain ⟨oc, od, kV, doc, pm, an, cdv, ct, osl, rfl, lk, hcd⟩ := F.ex
  refine ⟨fun s H args us vs Q E e0 hb r hsp => ?_⟩
  have lv := len _ _ _ _ hsp
  have KX : K.In s.heap := e0.mod.kin.keeps fun b o e => (e0.bs b o e).1
  have lim : s.heap.NoLimit := e0.mod.nolimit.keeps fun b o e => (e0.bs b o e).1
  refine codeAny_call_function room.depth (KX _ _ lk) rfl S.co S.gen rfl (PySem.W.codeRec_of KX hcd) (hb _ _ _ _ (wpAny_newFunctionEnv_cells S.kind (fun y hy => ?_) fun env he s1 x1 => ?_))
  · rcases S.par y.1 (List.of_mem_zip hy).1 with q | q
    · exact .inl q
    · exact .inr ⟨q, PySem.W.cellsFrom_some _ _ _ (.inl q)⟩
  · subst he
    refine ⟨lim.keeps x1.toInCall.keep, codeAny_func ?_⟩
    obtain ⟨t, ht, hq⟩ := hbody cdv callerA s H vs Q E rfl (room.deeper _) hsp
    have I := inv_start (CX := CX0) (E := E) S room.hd e0 lv r x1
    refine wpAny_mono ((PSs.nox ht).run [] s1 (start N vs) H _ I hq) (fun fl s' hs => ?_) fun e s' hs => hs
    cases fl with
    | ret u =>
      obtain ⟨v, σ', H', J, rv, q⟩ := hs
      exact ⟨v, H', J.os, J.bare, J.base, J.hok, rv, q⟩
    | next =>
      obtain ⟨σ', H', J, q⟩ := hs
      exact ⟨.non, H', J.os, J.bare, J.base, J.hok, rfl, q⟩
    | brk => exact hs.elim fun _ z => z.elim fun _ z => z.2.elim
    | cont => exact hs.elim fun _ z => z.elim fun _ z => z.2.elim
end
end Cs
namespace Cs
open PySem PySem.Spec PyProof.Rows L2 LamX
/-- a table as the top has left it -/
def tb0 : Obj := { cls := .none, data := .fields #[] }
theorem law_callG {P : Program} {w : World} {K : PySem.W.Frag} {mg mb : Str → Option Value} {fa a : Addr} {cs : List (Addr × Addr)} {fd : FuncData} {x : Str} {sp : Sp} {s₁ : Shared} {vs : List Value} {ns : List Int}
    (KX : K.In s₁.heap) (hns : s₁.heap.Ns mainGlobals mg) (hb : s₁.heap.Ns builtinsNs mb) (hbb : ∀ x : Str, x ≠ "__name__" → mb x = bootBuiltins x) (hlim : s₁.heap.NoLimit) (hg : s₁.gens = #[])
    (hT : ∀ p ∈ cs, s₁.heap.get? p.2 = some tb0) (nT : ∀ p ∈ cs, K.lookup p.2 = none) (C : ∀ p ∈ cs, PySem.W.CodeHd s₁.heap p.1 p.2)
    (hbm : ∃ (bm : Addr) (ob : Obj), mg "__builtins__" = some (.ref bm) ∧ bm ≠ builtinsNs ∧ s₁.heap.get? bm = some ob ∧ ob.cls = .type "module" ∧ ob.dict = some builtinsNs ∧ ob.data = .plain)
    (ha : s₁.heap.get? a = some { cls := .type "list", data := .seq vs.toArray }) (hi : IntsAre vs ns) (hl : ns.length ≤ sizeLine)
    (F : ∀ base : Heap, K.In base → base.Ns mainGlobals mg → (∀ p ∈ cs, TabB base mg p.1 p.2) → FnG P w K mg base fa fd [x] sp) (hbind : ∀ (s : Shared) (u : Value), BindsTo s fd ⟨[u], []⟩ [(x, u)])
    (hsp : ∀ H : Hp, (∀ p ∈ cs, H p.2 = some (.tbl #[])) → SqL K H a (ns.map V.int) → sp [.ref a] H (fun v _ => v = .bl true) fun _ _ _ => False) :
    codeAny (model P w) callerA (.call (.ref fa) ⟨[.ref a], []⟩) (fun r s' => r = .ok (.ret (.bool true)) ∧ OldK s₁.heap s'.heap ∧ s'.os = s₁.os ∧ AllBare s'.gens) s₁ := by
  have rv := vals_ints hi
  -- the tables
  have tb : ∀ b : Addr, b ∈ cs.map (·.2) → s₁.heap.get? b = some tb0 := fun b hb => by
    obtain ⟨p, hp, rfl⟩ := List.mem_map.mp hb
    exact hT p hp
  have at0 : a ∉ cs.map (·.2) := fun z => by
    have q := (tb a z).symm.trans ha
    exact absurd (congrArg Obj.data (Option.some.inj q)) (fun e => nomatch e)
  -- what is tracked: the tables, and the script where the written part does not know it
  let lo : Obj := { cls := .type "list", data := .seq vs.toArray }
  let H : Hp := fun b => if b = a ∧ K.lookup a = none then some (.frz lo (.lst (ns.map V.int))) else if b ∈ cs.map (·.2) then some (.tbl #[]) else none
  have H1 : ∀ p ∈ cs, H p.2 = some (.tbl #[]) := fun p hp => by
    have m : p.2 ∈ cs.map (·.2) := List.mem_map.mpr ⟨p, hp, rfl⟩
    show (if p.2 = a ∧ K.lookup a = none then _ else if p.2 ∈ cs.map (·.2) then _ else _) = _
    rw [if_neg (fun z => at0 (by rw [← z.1]; exact m)), if_pos m]
  have H2 : ∀ b, H b = none ∨ (b ∈ cs.map (·.2) ∧ H b = some (.tbl #[])) ∨ (b = a ∧ K.lookup a = none ∧ H b = some (.frz lo (.lst (ns.map V.int)))) := fun b => by
    by_cases e : b = a ∧ K.lookup a = none
    · exact .inr (.inr ⟨e.1, e.2, if_pos e⟩)
    · by_cases m : b ∈ cs.map (·.2)
      · exact .inr (.inl ⟨m, (if_neg e).trans (if_pos m)⟩)
      · exact .inl ((if_neg e).trans (if_neg m))
  have H3 : SqL K H a (ns.map V.int) := by
    cases hk : K.lookup a with
    | none => exact .inl (.inr ⟨lo, if_pos ⟨rfl, hk⟩⟩)
    | some o =>
      have e := KX a o hk
      rw [ha] at e
      cases e
      exact .inr ⟨_, vs.toArray, _, hk, rfl, rfl, rfl, by rw [List.size_toArray, hi.length]; exact hl, by simpa using rv⟩
  have H4 : HOk P w H s₁.heap := fun b u e => by
    rcases H2 b with z | ⟨m, z⟩ | ⟨rfl, _, z⟩
    · rw [z] at e; cases e
    · rw [z] at e; cases e
      exact tb b m
    · rw [z] at e; cases e
      exact ⟨ha, by rw [List.length_map]; exact hl, vs, _, rv, ha⟩
  clear_value H
  -- the base: all that is not tracked
  have keep : ∀ {b : Addr} {o : Obj}, s₁.heap.get? b = some o → (∀ v n, o.data ≠ .seq v n) → o.data ≠ .fields #[] → (hidT s₁.heap H).get? b = some o := fun {b o} e d1 d2 => by
    refine hidT_get e ?_
    rcases H2 b with z | ⟨m, _⟩ | ⟨rfl, _, _⟩
    · exact z
    · rw [tb b m] at e; cases e
      exact absurd rfl d2
    · rw [ha] at e; cases e
      exact absurd rfl (d1 _ _)
  have nsB : ∀ {b : Addr} {m : Str → Option Value}, s₁.heap.Ns b m → (hidT s₁.heap H).Ns b m := fun ⟨o, es, ep, e, d, r⟩ =>
    ⟨o, es, ep, keep e (fun _ _ z => by rw [d] at z; cases z) (fun z => by rw [d] at z; cases z), d, r⟩
  have KB : K.In (hidT s₁.heap H) := fun b o e => by
    refine hidT_get (KX b o e) ?_
    rcases H2 b with z | ⟨m, _⟩ | ⟨rfl, z, _⟩
    · exact z
    · obtain ⟨p, hp, rfl⟩ := List.mem_map.mp m
      rw [nT p hp] at e; cases e
    · rw [z] at e; cases e
  have TBs : ∀ p ∈ cs, TabB (hidT s₁.heap H) mg p.1 p.2 := fun p hp => by
    refine ⟨?_, ?_, fun z => ?_⟩
    · obtain ⟨o, us, file, tf, flags, tg, inF, text, tt, e1, r1, r2, r3, rest⟩ := C p hp
      refine ⟨o, us, file, tf, flags, tg, inF, text, tt, keep e1 (fun _ _ z => by rw [r2] at z; cases z) (fun z => ?_), r1, r2, r3, rest⟩
      rw [r2] at z; cases z
      simp at r3
    · obtain ⟨bm, ob, b1, b2, b3, b4, b5, b6⟩ := hbm
      refine ⟨bm, ob, b1, b2, fun q => ?_, fun q => ?_, keep b3 (fun _ _ z => by rw [b6] at z; cases z) (fun z => by rw [b6] at z; cases z), b4, b5, b6⟩
      · obtain ⟨o, es, ep, e, d, _⟩ := hns
        rw [q, e] at b3; cases b3
        rw [d] at b6; cases b6
      · rw [q, hT p hp] at b3; cases b3
        cases b6
    · obtain ⟨o, es, ep, e, d, _⟩ := hns
      rw [z, hT p hp] at e; cases e
      cases d
  have M : L2.Mod K mg (hidT s₁.heap H) := ⟨KB, nsB hns, ⟨mb, nsB hb, hbb⟩, let ⟨mc, n1, n2⟩ := hlim; ⟨mc, nsB n1, n2⟩⟩
  have e0 : Env0 P w K mg (hidT s₁.heap H) callerA [] s₁ H := ⟨rfl, M, fun b o e => of_hidT e, Nat.le_of_eq (hidT_size _ _), trivial, fun b z => absurd (show b ∈ ([] : List Addr) from z) (by simp), H4, .of_eq hg⟩
  refine codeAny_mono ((F _ KB (nsB hns) TBs).run s₁ H ⟨[.ref a], []⟩ [.ref a] [.ref a] _ _ e0 (hbind s₁ (.ref a)) (.cons rfl .nil) (hsp H H1 H3)) fun r s' h => ?_
  cases r with
  | error e => exact h.elim
  | ok fl =>
    cases fl with
    | next => exact False.elim h
    | brk => exact False.elim h
    | cont => exact False.elim h
    | ret u =>
      obtain ⟨v, H', os, bare, un, hok', r', q⟩ := h
      obtain rfl : v = .bl true := q
      obtain rfl : u = Value.bool true := r'
      have more : ∀ b ∈ cs.map (·.2), ∃ m : Array Value, s'.heap.get? b = some { cls := .none, data := .fields m } := fun b hb => by
        obtain ⟨p, hp, rfl⟩ := List.mem_map.mp hb
        obtain ⟨m, z⟩ := un.tbls p.2 #[] (H1 p hp)
        exact ⟨_, hok' p.2 _ z⟩
      have old : ∀ b o, b ∉ cs.map (·.2) → s₁.heap.get? b = some o → s'.heap.get? b = some o := fun b o nb e => by
        rcases H2 b with z | ⟨m, _⟩ | ⟨rfl, _, z⟩
        · exact un.keep b o e z (fun q => absurd (show b ∈ ([] : List Addr) from q) (by simp)) (by simp)
        · exact absurd m nb
        · obtain ⟨e1, _⟩ := H4 b _ z
          obtain ⟨e2, _⟩ := hok' b _ (un.frzs b lo _ z)
          rw [e] at e1; cases e1
          exact e2
      refine ⟨rfl, ⟨fun b o e => ?_, fun b o e => ?_⟩, os, bare⟩
      · by_cases hb : b ∈ cs.map (·.2)
        · obtain ⟨m, hm⟩ := more b hb
          obtain ⟨p, hp, rfl⟩ := List.mem_map.mp hb
          rw [hT p hp] at e; cases e
          exact .inr (.inl ⟨((C p hp).tab (hT p hp)).isCodeTable, rfl, #[], m, rfl, by rw [Array.empty_append]; exact hm⟩)
        · exact .inl (old b o hb e)
      · by_cases hb : b ∈ cs.map (·.2)
        · obtain ⟨m, hm⟩ := more b hb
          exact ⟨_, hm⟩
        · exact ⟨o, old b o hb e⟩
end Cs
namespace Cs
open PySem PySem.Spec PyProof.Rows L2 LamX
def LawAtG (l : PySem.W.OpenLaw) (w : World) (K : PySem.W.Frag) (mg : Str → Option Value) (fa : Addr) (h : Heap) : Prop :=
  ∃ (fd : FuncData) (cs : List (Addr × Addr)) (sp : Sp), (∀ p ∈ cs, h.get? p.2 = some tb0) ∧ (∀ p ∈ cs, K.lookup p.2 = none) ∧ (∀ p ∈ cs, PySem.W.CodeHd h p.1 p.2) ∧ (∀ (s : Shared) (u : Value), BindsTo s fd ⟨[u], []⟩ [("_law_script", u)]) ∧
    (∀ (H : Hp) (a : Addr) (ns : List Int), ns.length ≤ 63 → (∀ z ∈ ns, Builtin.Int.intBits z ≤ 1048576) → (∀ p ∈ cs, H p.2 = some (.tbl #[])) → SqL K H a (ns.map V.int) → sp [.ref a] H (fun v _ => v = .bl true) fun _ _ _ => False) ∧
    ∀ base : Heap, K.In base → base.Ns mainGlobals mg → (∀ p ∈ cs, TabB base mg p.1 p.2) → FnG l.prog w K mg base fa fd ["_law_script"] sp
/-- the end where the law itself must know its place -/
theorem walkG {l : PySem.W.OpenLaw} {q : Program} {loose : List Str} {XP : (Str → Option Value) → Heap → Prop} {YP : World → Heap → Prop} {d : DefRec} {K : Params → PySem.W.Frag} (xs : List Str)
    (hn : l.most = some 63) (hdf : d.params.defaults = []) (hrec : ∀ x ∈ xs, ((recsOf q).find? fun e => e.name == x).isSome = true) (hY : ∀ (w : World) (h : Heap), YP w h → (K w.params).In h)
    (F : ∀ (w : World) (mg : Str → Option Value) (fa : Addr) (h : Heap), (K w.params).In h → h.Ns mainGlobals mg → mg d.name = some (.ref fa) →
      (∀ x ∈ xs, ∀ c P, PySem.W.tabIn (K w.params) x = some (c, P) → PySem.W.CodeHd h c P ∧ h.get? P = some tb0) → LawAtG l w (K w.params) mg fa h) :
    PySem.W.WalkO q loose XP YP l.row.toRowW d [] (fun f vs => PySem.call f vs) := by
  refine Att.attach_callB hn hdf fun w s₀ s₁ mg mb fa o pm cd doc a vs ns G Y ho hd hcd hmg hobj hints hlen hbits hg => ?_
  have KX := hY w _ Y
  obtain ⟨fd, cs, sp, hT, nT, C, hb, hsp, hF⟩ := F w mg fa _ KX G.T.g hmg fun x hx c P ht => by
    obtain ⟨dd, hdd⟩ := Option.isSome_iff_exists.mp (hrec x hx)
    exact PySem.W.tab_of G.T KX hdd ht
  exact law_callG KX G.T.g G.T.b G.T.builtins G.T.nolimit hg hT nT C G.T.bmain hobj hints (Nat.le_trans hlen (by decide)) hF hb fun H hH hS => hsp H a ns hlen hbits hH hS
end Cs
namespace Cs
open PySem PySem.Spec PyProof.Rows L2
theorem pi_tupK {X : Cx} {K : PySem.W.Frag} {tg l : Expr} {tl : TE} (hK : X.K = K) (hl : PE X l tl) : PI X tg l (iTup K tl) := by
  subst hK
  exact pi_tup hl
end Cs

namespace Cs
open PySem PySem.Spec PyProof.Rows L2
/-! ### rising texts -/
def leS (x y : Str) : Prop := x.cps.toList ≤ y.cps.toList
theorem lt_le {x y : Str} : ltCps y.cps.toList x.cps.toList = false ↔ leS x y := by
  rw [ltCps_eq, decide_eq_false_iff_not]
  exact Iff.rfl
theorem leS_trans {x y z : Str} (h : leS x y) (h2 : leS y z) : leS x z := List.le_trans h h2
theorem leS_anti {x y : Str} (h : leS x y) (h2 : leS y x) : x = y := by
  have e : x.cps.toList = y.cps.toList := List.le_antisymm h h2
  have e2 : x.cps = y.cps := Array.toList_inj.mp e
  cases x; cases y; cases e2; rfl
theorem rising_all : ∀ (r : List Str) (p : Str), risingS p r = true → (∀ x ∈ r, leS p x) ∧ sortedS r = true
  | [], _, _ => ⟨fun _ h => (nomatch h), rfl⟩
  | x :: r, p, h => by
    have h' : (!ltCps x.cps.toList p.cps.toList && risingS x r) = true := h
    rw [Bool.and_eq_true, Bool.not_eq_true'] at h'
    obtain ⟨a, b⟩ := rising_all r x h'.2
    have px := lt_le.mp h'.1
    exact ⟨fun y hy => (List.mem_cons.mp hy).elim (fun e => by rw [e]; exact px) fun m => leS_trans px (a y m), h'.2⟩
theorem sorted_eq : ∀ (l m : List Str), sortedS l = true → sortedS m = true → l.Perm m → l = m
  | [], m, _, _, p => p.symm.eq_nil.symm
  | x :: l, [], _, _, p => p.eq_nil
  | x :: l, y :: m, h, k, p => by
    obtain ⟨a1, a2⟩ := rising_all l x h
    obtain ⟨b1, b2⟩ := rising_all m y k
    have xy : leS x y := by
      rcases List.mem_cons.mp (p.symm.mem_iff.mp List.mem_cons_self) with e | e
      · rw [← e]; exact List.le_refl _
      · exact a1 y e
    have yx : leS y x := by
      rcases List.mem_cons.mp (p.mem_iff.mp List.mem_cons_self) with e | e
      · rw [← e]; exact List.le_refl _
      · exact b1 x e
    have e := leS_anti xy yx
    subst e
    rw [sorted_eq l m a2 b2 (List.perm_cons _ |>.mp p)]
theorem sorted_same {l m : List Str} (h : sortedS l = true) (k : sortedS m = true) (n : l.Nodup) (n2 : m.Nodup) (e : ∀ y, y ∈ l ↔ y ∈ m) : l = m :=
  sorted_eq l m h k ((List.perm_ext_iff_of_nodup n n2).mpr e)
end Cs
namespace Cs
open PySem PySem.Spec PyProof.Rows L2
theorem ix_tupK {X : Cx} {K : PySem.W.Frag} (hK : X.K = K) : IxR X (rIxT K) := by
  subst hK
  exact ix_tup
theorem ix_listK {X : Cx} {K : PySem.W.Frag} (hK : X.K = K) : IxR X (rIxL K) := by
  subst hK
  exact ix_list
end Cs

namespace Cs
open PySem PySem.Spec PyProof.Rows L2
/-! ### defs that raise (the exception's context is None) -/
section
variable {P : Program} {w : World} {K : PySem.W.Frag} {mg : Str → Option Value} {base : Heap} {k : Nat} {C : Addr} {x m qual : Str} {sp : Sp} {st : Stmt} {N ps : List Str}
theorem Dm.okN (D : Dm K C m qual st ps) (S : FnScope N ps (defScope st)) (len : ∀ vs H Q E, sp vs H Q E → vs.length = ps.length)
    (hbody : ∀ (f : Addr) (cdv : Value) (A : Around) (outer : List Env) (s : Shared) (H : Hp) (vs : List V) (Q : VK) (E : XK), Room k (A.deeper (envOfC qual (defScope st) s.heap.objs.size f cdv)) →
      L2N.Takes (cxOf (L2N.CX P w) P w K mg base N qual (defScope st) f cdv A outer s H E) (fun cls d _ H => E cls d H) → Passes (L2N.CX P w) (cxOf (L2N.CX P w) P w K mg base N qual (defScope st) f cdv A outer s H E) E → sp vs H Q E →
      ∃ t, PSs (cxOf (L2N.CX P w) P w K mg base N qual (defScope st) f cdv A outer s H E) (defBody st) t ∧ t { nx := fun _ H' => Q .non H', rt := Q } (start N vs) H) : Ml (L2N.CX P w) P w K mg base (k + 1) C m sp := by
  obtain ⟨f, fd, F, hm, hf, hb⟩ := D.ex
  obtain ⟨oc, od, kV, doc, pm, an, cdv, ct, osl, rfl, lk, hcd⟩ := F.ex
  exact ⟨f, _, ps, fn_of lk hcd S len fun A outer s H vs Q E hr hsp =>
    have tk := L2N.takes_of (X := cxOf (L2N.CX P w) P w K mg base N qual (defScope st) f cdv A outer s H E) rfl rfl rfl rfl
    hbody f cdv A outer s H vs Q E hr tk (L2N.passes_call tk fun _ _ _ _ h => h) hsp, ⟨hm, hf, F.kp⟩, hb⟩
theorem Df.okN (D : Df K mg x st ps) (S : FnScope N ps (defScope st)) (len : ∀ vs H Q E, sp vs H Q E → vs.length = ps.length)
    (hbody : ∀ (f : Addr) (cdv : Value) (A : Around) (outer : List Env) (s : Shared) (H : Hp) (vs : List V) (Q : VK) (E : XK), Room k (A.deeper (envOfC x (defScope st) s.heap.objs.size f cdv)) →
      L2N.Takes (cxOf (L2N.CX P w) P w K mg base N x (defScope st) f cdv A outer s H E) (fun cls d _ H => E cls d H) → Passes (L2N.CX P w) (cxOf (L2N.CX P w) P w K mg base N x (defScope st) f cdv A outer s H E) E → sp vs H Q E →
      ∃ t, PSs (cxOf (L2N.CX P w) P w K mg base N x (defScope st) f cdv A outer s H E) (defBody st) t ∧ t { nx := fun _ H' => Q .non H', rt := Q } (start N vs) H) : Cl (L2N.CX P w) P w K mg base (k + 1) x sp := by
  obtain ⟨f, fd, F, hm, hb⟩ := D.ex
  obtain ⟨oc, od, kV, doc, pm, an, cdv, ct, osl, rfl, lk, hcd⟩ := F.ex
  exact ⟨f, _, ps, fn_of lk hcd S len fun A outer s H vs Q E hr hsp =>
    have tk := L2N.takes_of (X := cxOf (L2N.CX P w) P w K mg base N x (defScope st) f cdv A outer s H E) rfl rfl rfl rfl
    hbody f cdv A outer s H vs Q E hr tk (L2N.passes_call tk fun _ _ _ _ h => h) hsp, hm, F.kp, hb⟩
theorem takesN0 {X : Cx} : L2N.Takes X (fun _ _ _ _ => False) := fun _ _ ⟨_, _, _, _, _, _, _, _, _, _, _, _, _, _, _, _, z⟩ => z.elim
end
section
variable {X : Cx} {CX : CXT} {k j : Nat} {C : Addr} {x : Str} {sp : Sp} {p pos : Pos} {e : Expr} {es : List Expr} {ta : TA} {E : L2.St → XK}
/-- C(e, ..) to be raised, C an own exception class -/
theorem pxN (c : Xm CX X.prog X.w X.K X.mg X.base k x C sp) (hr : Room j X.A) (hk : k + 1 ≤ j) (hg : Gl X x) (hx : Passes CX X (fun _ _ _ => False)) (ha : PA X (e :: es) ta)
    (hdb : (x == ("__debug__" : Str)) = false := by decide) (he : starEach (e :: es) X.env = (false, eval e X.env) :: starEach es X.env := by rfl) (hpl : (backTo pos (starEach es X.env)).any (·.1) = false := by rfl) :
    L2N.PMk X (.Call (.Name x p) (e :: es) [] pos) (tMkO C sp [] ta) := by
  obtain ⟨fI, fd, ps, F1, T, iC, tI, hm, hb⟩ := c.ex
  have hr := hr.mono hk
  intro pins s σ H Q I h
  obtain ⟨nm, q, N, bs, bm, sn, sub, ab, col, dd, k0, k1, k2, k3, k5, hC, hbm⟩ := T.cls
  refine wpAny_Call_Name_kw (ld_glob I hg hm ?_ hdb)
  refine PySem.W.callWith_K (h₀ := X.base) I.ok.mod.kin T.kC (thn (ha.run pos pins s σ H _ I h) fun us s1 ⟨vs, H1, I1, r1, hz, q1⟩ => ⟨I1.kIn, ?_⟩) he hpl
  show wpAny _ _ (call (.ref C) us) _ _ _
  obtain ⟨hp, g, dr, tk, os⟩ := s1
  have old : hp.objs.size ≤ hp.objs.size + 1 := Nat.le_succ _
  have hq := q1 (hp.objs.size + 1) (I1.hok.fresh old)
  rw [List.append_nil] at hq
  have kp : ∀ b o, hp.get? b = some o → ((hp.push (PySem.W.kdv_tup us)).push (PySem.HandSPX.excO C hp.objs.size)).get? b = some o := fun b o e => Heap.get?_push_of_some _ (Heap.get?_push_of_some _ e)
  have at1 : ((hp.push (PySem.W.kdv_tup us)).push (PySem.HandSPX.excO C hp.objs.size)).get? (hp.objs.size + 1) = some (PySem.HandSPX.excO C hp.objs.size) := by heap_get
  have I2 : Inv X pins σ (upd H1 (hp.objs.size + 1) (exo (hp.objs.size + 1) C none)) ⟨(hp.push (PySem.W.kdv_tup us)).push (PySem.HandSPX.excO C hp.objs.size), g, dr, tk, os⟩ := I1.laid (t' := tk) kp old (exo_ok at1)
  have r2 : Vals (V.ref (hp.objs.size + 1) :: vs) (Value.ref (hp.objs.size + 1) :: us) := .cons rfl r1
  have lus : us.length ≤ sizeLine := by
    rw [← Paired.length r1, sizeLine_eq]
    omega
  have b2 := hb _ (Value.ref (hp.objs.size + 1) :: us) I2.kIn (by rw [List.append_nil, ← r2.length]; exact F1.len _ _ _ _ hq)
  rw [List.append_nil] at b2
  refine wpAny_call (PySem.HandSPX.call_own F.excBase_ValueError (fun Y => PySem.HandSPX.refsVE_contains Y bm hbm) (I1.kIn _ _ hC) (PySem.W.looks_findIn I1.kIn iC) (fun self => PySem.W.bind_fn I1.kIn self tI) lus
    (codeAny_mono (F1.run _ X.stack _ _ ⟨Value.ref (hp.objs.size + 1) :: us, []⟩ (Value.ref (hp.objs.size + 1) :: us) _ _ (fun _ _ _ => False) (hr.make C us []) (I2.env0.make C us []) b2 r2 hq) fun r s' hq' => ?_))
  cases r with
  | error er => exact hx pins σ _ _ er s' I2 hq'
  | ok fl =>
    cases fl with
    | ret u =>
      obtain ⟨v, H2, os2, bare2, un2, hok2, rv, rfl, d, fs, ea, ed, hd1, q2⟩ := hq'
      obtain ⟨h2, g2, d2, t2, os'⟩ := s'
      obtain ⟨t0, G, J, kG, ge, hoe, na⟩ := mk_end0 (d2 := d2) (t2 := t2) I1 old kp un2 hok2 os2 bare2 ea ed hd1
      exact ⟨rv, hp.objs.size + 1, _, _, ⟨G, g2, d2, t2, os'⟩, _, .ref C, some d, rfl, J, kG, ge, hoe, ⟨rfl, rfl, fun vs hv => by cases hv; rfl⟩, rfl, rfl, na, rfl, bare2, raises_own T.exC T.tyC, q2⟩
    | next => exact False.elim hq'
    | brk => exact False.elim hq'
    | cont => exact False.elim hq'
/-- f(e, ..) that may raise, in a try -/
theorem pcS (c : Cl CX X.prog X.w X.K X.mg X.base k x sp) (hr : Room j X.A) (hk : k ≤ j) (hg : Gl X x) (hx : ∀ σ, PassesAt CX X σ (E σ)) (ha : PA X (e :: es) ta)
    (hdb : (x == ("__debug__" : Str)) = false := by decide) (he : starEach (e :: es) X.env = (false, eval e X.env) :: starEach es X.env := by rfl) (hpl : (backTo pos (starEach es X.env)).any (·.1) = false := by rfl) :
    PE X (.Call (.Name x p) (e :: es) [] pos) (tCallS sp E ta) := by
  obtain ⟨f, fd, ps, F, hm, hkp, hb⟩ := c.ex
  exact pe_callS F (hr.mono hk) hg hm hkp hb hx ha hdb he hpl
end
end Cs
namespace Cs
open PySem PySem.Spec PyProof.Rows L2 L2H
/-! ### defs called within an except suite -/
structure ClH (P : Program) (w : World) (K : PySem.W.Frag) (mg : Str → Option Value) (base : Heap) (k : Nat) (x : Str) (sp : Sp) : Prop where
  ex : ∃ f fd ps, FnH P w K mg base CX0 k f fd ps sp ∧ mg x = some (.ref f) ∧ PySem.W.keepIn K (.ref f) = true ∧ Binds K fd ps []
section
variable {P : Program} {w : World} {K : PySem.W.Frag} {mg : Str → Option Value} {base : Heap} {k : Nat} {x : Str} {sp : Sp} {st : Stmt} {N ps : List Str}
theorem Df.okH (D : Df K mg x st ps) (S : FnScope N ps (defScope st)) (len : ∀ vs H Q E, sp vs H Q E → vs.length = ps.length)
    (hbody : ∀ (f : Addr) (cdv : Value) (A : Around) (outer : List Env) (s : Shared) (H : Hp) (vs : List V) (Q : VK) (E : XK) (p : Addr × Obj), HotC (cxH CX0 P w K mg base N x (defScope st) f cdv A outer s H E p).nox → RoomH k (A.deeper (envOfC x (defScope st) s.heap.objs.size f cdv)) → sp vs H Q E →
      ∃ t, PSs (cxH CX0 P w K mg base N x (defScope st) f cdv A outer s H E p).nox (defBody st) t ∧ t { nx := fun _ H' => Q .non H', rt := Q } (L2.start N vs) H) : ClH P w K mg base (k + 1) x sp := by
  obtain ⟨f, fd, F, hm, hb⟩ := D.ex
  obtain ⟨oc, od, kV, doc, pm, an, cdv, ct, osl, rfl, lk, hcd⟩ := F.ex
  refine ⟨f, _, ps, fn_ofH lk hcd S len fun A outer s H vs Q E p hot hr hsp => ?_, hm, F.kp, hb⟩
  obtain ⟨t, h, q⟩ := hbody f cdv A outer s H vs Q E p ⟨p, ⟨hot.1, hot.2⟩, List.mem_singleton_self _⟩ hr hsp
  exact ⟨t, PSs.nox h, q⟩
theorem Df.noneH (D : Df K mg x st ps) (no : ∀ vs H Q E, ¬ sp vs H Q E) : ClH P w K mg base k x sp := by
  obtain ⟨f, fd, F, hm, hb⟩ := D.ex
  exact ⟨f, fd, ps, ⟨fun vs H Q E h => absurd h (no vs H Q E), fun A outer s H args us vs Q E p _ _ _ _ _ _ h => absurd h (no vs H Q E)⟩, hm, F.kp, hb⟩
theorem ClH.up {j : Nat} (c : ClH P w K mg base k x sp) (h : k ≤ j) : ClH P w K mg base j x sp := by
  obtain ⟨f, fd, ps, F, r⟩ := c.ex
  exact ⟨f, fd, ps, ⟨F.len, fun A outer s H args us vs Q E p hr => F.run A outer s H args us vs Q E p (hr.mono h)⟩, r⟩
end
section
variable {X : Cx} {k j : Nat} {x : Str} {sp : Sp} {p pos : Pos} {e : Expr} {es : List Expr} {t : TA}
theorem pcH (c : ClH X.prog X.w X.K X.mg X.base k x sp) (hr : RoomH j X.A) (hk : k ≤ j) (hc : HotC X) (hg : Gl X x) (ha : PA X (e :: es) t)
    (hdb : (x == ("__debug__" : Str)) = false := by decide) (he : starEach (e :: es) X.env = (false, eval e X.env) :: starEach es X.env := by rfl) (hpl : (backTo pos (starEach es X.env)).any (·.1) = false := by rfl) :
    PE X (.Call (.Name x p) (e :: es) [] pos) (tCallS sp (fun _ => E0) t) := by
  obtain ⟨f, fd, ps, F, hm, hkp, hb⟩ := c.ex
  exact pe_callH F (hr.mono hk) hc hg hm hkp hb (fun σ _ _ _ _ _ _ h => h.elim) ha hdb he hpl
/-- the suite's exception makes it hot -/
theorem hot_suite {X : Cx} {a : Addr} {oe : Obj} {cls : Value} {d : Option Addr} {pn : List (Addr × Obj)} (hz : L2N.Zn cls d oe) (hf : ∃ vs, oe.data = .fields vs) : HotC (X.suite a ((a, oe) :: pn)) := by
  obtain ⟨vs, hd⟩ := hf
  exact ⟨(a, oe), ⟨rfl, vs, hd, hz.2.2 vs hd⟩, List.mem_cons_self⟩
theorem roomH_suite {X : Cx} {j : Nat} {a : Addr} {pn : List (Addr × Obj)} (r : Room j X.A) : RoomH j (X.suite a pn).A := ⟨r.dp, r.un⟩
/-- isinstance(e, c), e the suite's exception -/
def rIsX (K : PySem.W.Frag) (a : Addr) (cls : Value) (d : Option Addr) : List V → Hp → VK → Prop := fun xs H Q => ∃ (c : V) (cv : Value) (b : Bool) (D dd : Addr) (fs : List (Str × V)), xs = [.ref a, c] ∧ cls = .ref D ∧ d = some dd ∧ ExcC K D ∧ H dd = some (.xd fs) ∧
  (∀ u, RelV c u → u = cv) ∧ PySem.W.kitOne K (.ref D) cv = some b ∧ Q (.bl b) H
theorem call_isX {X : Cx} {a : Addr} {cls : Value} {d : Option Addr} {oe : Obj} {pn : List (Addr × Obj)} (hz : L2N.Zn cls d oe) (hf : ∃ vs, oe.data = .fields vs) : CallR (X.suite a ((a, oe) :: pn)) (.builtin "isinstance") (rIsX X.K a cls d) := by
  intro pins s σ H xs us Q I r h
  obtain ⟨c, cv, b, D, dd, fs, rfl, rfl, rfl, C, ea, hcv, e, q⟩ := h
  cases r with
  | cons rx rr =>
    cases rr with
    | cons rt rr =>
      cases rr
      cases rx
      obtain rfl := hcv _ rt
      obtain ⟨hget, _⟩ := I.pin (a, oe) (List.mem_append.mpr (.inl List.mem_cons_self))
      obtain ⟨vs, hv⟩ := hf
      have hx : ObjOk X.prog X.w H s.heap dd (.xd fs) := I.hok dd _ ea
      obtain ⟨mA, hns, hr⟩ := hx
      obtain ⟨od, ho, hl⟩ := lookIn_ns hns
      have J : PySem.W.InstAt s.heap a oe D (some od) := ⟨hget, hz.1, by unfold PySem.W.notCls; rw [hv] <;> rfl, by rw [hz.2.1]; exact ho⟩
      have hcl : (PySem.W.clsIn X.K D).isSome = true := by
        obtain ⟨cd, hc, _⟩ := PySem.W.any_some C.hd
        rw [hc]; rfl
      exact PySem.W.kia_one (PySem.W.kitx_exc hcl C.hg C.hk C.hs C.ha C.hn C.ht C.hm) I.kIn J e (fun z => nomatch z) fun tk => ⟨.bl b, H, I.kept (t' := tk) fun _ _ z => z, rfl, q⟩
end
end Cs
namespace Cs
open PySem PySem.Spec PyProof.Rows L2
/-- what the __init__ of an own exception class with two fields leaves -/
def spX2 (C : Addr) (f1 f2 : Str) : Sp := fun vs H Q _ => ∃ (a : Addr) (y z : V), vs = [.ref a, y, z] ∧ H a = some (exo a C none) ∧
  ∀ d : Addr, H d = none → d ≠ a → Q .non (upd (upd (upd H d (exd d [(f1, y)])) a (exo a C (some d))) d (exd d [(f2, z), (f1, y)]))
/-- raising it -/
theorem raise2 {C : Addr} {f1 f2 : Str} {y z : V} {H1 : Hp} {W : XK} (h : ∀ (d : Addr) (H' : Hp), Gr H1 H' → H' d = some (.xd [(f2, z), (f1, y)]) → W (.ref C) (some d) H') :
    ([y, z] : List V).length ≤ 1000 ∧ ∀ a, H1 a = none → spX2 C f1 f2 (.ref a :: ([y, z] ++ [])) (upd H1 a (exo a C none))
      (fun v H2 => v = .non ∧ ∃ (d : Addr) (fs : List (Str × V)), H2 a = some (exo a C (some d)) ∧ H2 d = some (exd d fs) ∧ H1 d = none ∧ W (.ref C) (some d) (upd (del H2 a) d (.xd fs))) (fun _ _ _ => False) := by
  refine ⟨(by show 2 ≤ 1000; decide), fun a ha => ⟨a, y, z, rfl, upd_same, fun d hd hne => ⟨rfl, d, _, by rw [upd_ne hne.symm]; exact upd_same, upd_same, ?_, ?_⟩⟩⟩
  · rw [upd_ne hne] at hd; exact hd
  · have hd1 : H1 d = none := by rw [upd_ne hne] at hd; exact hd
    have e : upd (del (upd (upd (upd (upd H1 a (exo a C none)) d (exd d [(f1, y)])) a (exo a C (some d))) d (exd d [(f2, z), (f1, y)])) a) d (.xd [(f2, z), (f1, y)]) = upd H1 d (.xd [(f2, z), (f1, y)]) := by
      funext b
      by_cases e1 : b = d
      · rw [e1, upd_same, upd_same]
      · rw [upd_ne e1, upd_ne e1]
        by_cases e2 : b = a
        · rw [e2, del_same]; exact ha.symm
        · rw [del_ne e2, upd_ne e1, upd_ne e2, upd_ne e1, upd_ne e2]
    rw [e]
    exact h d _ (Gx.new hd1) upd_same
end Cs

namespace Cs
open PySem PySem.Spec PyProof.Rows L2
/-! ### the first fault of a text, and what a recursive reader finds: plain law -/
def s0 : RS := ⟨0, [([], 0)], true⟩
def Done (t : List Nat) (s : RS) : Prop := ∃ g, s = ⟨t.length, [g], false⟩
/-- the fault at a state from which no step leads on -/
def fltS (t : List Nat) (s : RS) : Nat × Str :=
  if s.p = t.length ∨ (s.wants = false ∧ t[s.p]? = some 45 ∧ s.p + 1 = t.length) then (t.length, "unexpected end") else (s.p, "unexpected sign")
theorem Run.snoc {t : List Nat} {a b c : RS} (x : Run t a b) (h : stepS t b = some c) : Run t a c := x.trans (.more h (.refl _))
theorem nameAt_le {t : List Nat} {p c : Nat} (h : t[p]? = some c) : p + (nameAt t p c).length ≤ t.length := by
  have h1 := (List.getElem?_eq_some_iff.mp h).1
  unfold nameAt
  split
  · rename_i d hd
    have h2 := (List.getElem?_eq_some_iff.mp hd).1
    split <;> simp <;> omega
  · simp; omega
theorem step_le {t : List Nat} {s s' : RS} (h : stepS t s = some s') : s'.p ≤ t.length := by
  unfold stepS at h
  split at h
  · cases h
  · rename_i c hc
    have h1 := (List.getElem?_eq_some_iff.mp hc).1
    split at h
    · cases h; exact h1
    · split at h
      · unfold startS at h
        split at h
        · split at h
          · cases h; exact h1
          · cases h
        · split at h
          · cases h; exact h1
          · split at h
            · cases h; exact nameAt_le hc
            · cases h
      · unfold goS at h
        split at h
        · split at h
          · rename_i h2
            cases h
            exact (List.getElem?_eq_some_iff.mp h2).1
          · cases h
        · split at h
          · split at h
            · cases h; exact h1
            · cases h
          · cases h
theorem step_of {t : List Nat} {s : RS} {c : Nat} (h : t[s.p]? = some c) : stepS t s = if c = 32 then some ⟨s.p + 1, s.gs, s.wants⟩ else if s.wants then startS t s c else goS t s c := by
  unfold stepS
  rw [h]
/-- spaces from a to b -/
def Skip (t : List Nat) (a b : Nat) : Prop := a ≤ b ∧ (∀ i, a ≤ i → i < b → t[i]? = some 32) ∧ t[b]? ≠ some 32
theorem skip_more {t : List Nat} {a b : Nat} (h : t[a]? = some 32) (x : Skip t (a + 1) b) : Skip t a b :=
  ⟨by have := x.1; omega, fun i h1 h2 => by
    by_cases e : i = a
    · rw [e]; exact h
    · exact x.2.1 i (by omega) h2, x.2.2⟩
theorem skip_here {t : List Nat} {a : Nat} (h : t[a]? ≠ some 32) : Skip t a a := ⟨Nat.le_refl _, fun i h1 h2 => absurd h1 (by omega), h⟩
theorem skip_inv {t : List Nat} {a b : Nat} (x : Skip t a b) : (t[a]? = some 32 ∧ Skip t (a + 1) b) ∨ (a = b ∧ t[a]? ≠ some 32) := by
  obtain ⟨h1, h2, h3⟩ := x
  by_cases e : a = b
  · subst e; exact .inr ⟨rfl, h3⟩
  · exact .inl ⟨h2 a (Nat.le_refl _) (by omega), by omega, fun i q1 q2 => h2 i (by omega) q2, h3⟩
/-- what the recursive reader finds at p: false a part, true a formula; n bounds its depth -/
def PN (t : List Nat) : Nat → Bool → Nat → Fm → Nat → Prop
  | 0, _, _, _, _ => False
  | n + 1, false, p, f, q => ∃ p0, Skip t p p0 ∧ ((t[p0]? = some 126 ∧ ∃ g, f = .ng g ∧ PN t n false (p0 + 1) g q) ∨ (t[p0]? = some 40 ∧ ∃ q', q = q' + 1 ∧ PN t n true (p0 + 1) f q') ∨
      ∃ c, t[p0]? = some c ∧ small c = true ∧ f = .lt ⟨(nameAt t p0 c).toArray⟩ ∧ q = p0 + (nameAt t p0 c).length)
  | n + 1, true, p, g, q => ∃ f p1 p2, PN t n false p f p1 ∧ Skip t p1 p2 ∧ ((t[p2]? = some 45 ∧ t[p2 + 1]? = some 62 ∧ ∃ h, g = .im f h ∧ PN t n true (p2 + 2) h q) ∨ (¬ (t[p2]? = some 45 ∧ t[p2 + 1]? = some 62) ∧ g = f ∧ q = p2))
theorem PN.succ {t : List Nat} : ∀ {n : Nat} {b : Bool} {p : Nat} {f : Fm} {q : Nat}, PN t n b p f q → PN t (n + 1) b p f q
  | 0, _, _, _, _, h => h.elim
  | n + 1, false, p, f, q, h => by
    obtain ⟨p0, h0, h⟩ := h
    refine ⟨p0, h0, ?_⟩
    rcases h with ⟨a, g, e, x⟩ | ⟨a, q', e, x⟩ | x
    · exact .inl ⟨a, g, e, x.succ⟩
    · exact .inr (.inl ⟨a, q', e, x.succ⟩)
    · exact .inr (.inr x)
  | n + 1, true, p, g, q, h => by
    obtain ⟨f, p1, p2, x, sk, h⟩ := h
    refine ⟨f, p1, p2, x.succ, sk, ?_⟩
    rcases h with ⟨a, b, h, e, y⟩ | h
    · exact .inl ⟨a, b, h, e, y.succ⟩
    · exact .inr h
theorem PN.mono {t : List Nat} {n m : Nat} {b : Bool} {p : Nat} {f : Fm} {q : Nat} (h : PN t n b p f q) (l : n ≤ m) : PN t m b p f q := by
  induction l with
  | refl => exact h
  | step _ ih => exact ih.succ
/-- a run to the end goes on -/
theorem acc_step {t : List Nat} {s : RS} {g : Grp} (h : Run t s ⟨t.length, [g], false⟩) : s = ⟨t.length, [g], false⟩ ∨ ∃ s1, stepS t s = some s1 ∧ Run t s1 ⟨t.length, [g], false⟩ := by
  cases h with
  | refl => exact .inl rfl
  | more h x => exact .inr ⟨_, h, x⟩
theorem acc_both {t : List Nat} {g : Grp} : ∀ m : Nat,
    (∀ p ps k gs, t.length ≤ p + m → Run t ⟨p, (ps, k) :: gs, true⟩ ⟨t.length, [g], false⟩ → ∃ f q, p < q ∧ PN t (q - p) false p f q ∧ Run t ⟨q, (ps ++ [negs k f], 0) :: gs, false⟩ ⟨t.length, [g], false⟩) ∧
    (∀ p ps gs, t.length ≤ p + m → Run t ⟨p, (ps, 0) :: gs, true⟩ ⟨t.length, [g], false⟩ → ∃ f q L, p < q ∧ PN t (q - p + 1) true p f q ∧ L ≠ [] ∧ grpF L = f ∧ t[q]? ≠ some 45 ∧ t[q]? ≠ some 32 ∧ Run t ⟨q, (ps ++ L, 0) :: gs, false⟩ ⟨t.length, [g], false⟩) ∧
    (∀ p ps f gs, t.length ≤ p + m → Run t ⟨p, (ps ++ [f], 0) :: gs, false⟩ ⟨t.length, [g], false⟩ → ∃ p2 q h L, p ≤ p2 ∧ p2 ≤ q ∧ Skip t p p2 ∧ ((t[p2]? = some 45 ∧ t[p2 + 1]? = some 62 ∧ p2 + 2 < q ∧ ∃ h', h = .im f h' ∧ PN t (q - (p2 + 2) + 1) true (p2 + 2) h' q) ∨ (¬ (t[p2]? = some 45 ∧ t[p2 + 1]? = some 62) ∧ h = f ∧ q = p2)) ∧ L ≠ [] ∧ grpF (f :: L.tail) = h ∧ L = f :: L.tail ∧ t[q]? ≠ some 45 ∧ t[q]? ≠ some 32 ∧ Run t ⟨q, (ps ++ L, 0) :: gs, false⟩ ⟨t.length, [g], false⟩) := by
    intro m
    induction m using Nat.strongRecOn with
    | _ m ih =>
    have part : ∀ p ps k gs, t.length ≤ p + m → Run t ⟨p, (ps, k) :: gs, true⟩ ⟨t.length, [g], false⟩ → ∃ f q, p < q ∧ PN t (q - p) false p f q ∧ Run t ⟨q, (ps ++ [negs k f], 0) :: gs, false⟩ ⟨t.length, [g], false⟩ := by
      intro p ps k gs hm hr
      rcases acc_step hr with e | ⟨s1, hs, hr1⟩
      · injection e with _ _ e; cases e
      cases hc : t[p]? with
      | none => unfold stepS at hs; rw [hc] at hs; cases hs
      | some c =>
        have hp := (List.getElem?_eq_some_iff.mp hc).1
        obtain ⟨m', rfl⟩ : ∃ m', m = m' + 1 := ⟨m - 1, by omega⟩
        obtain ⟨ihp, ihf, _⟩ := ih m' (Nat.lt_succ_self _)
        rw [step_of hc] at hs
        simp only at hs
        by_cases h32 : c = 32
        · rw [if_pos h32] at hs; cases hs
          subst h32
          obtain ⟨f, q, lt, x, r⟩ := ihp (p + 1) ps k gs (by omega) hr1
          obtain ⟨n, hn⟩ : ∃ n, q - (p + 1) = n + 1 := ⟨q - (p + 1) - 1, by omega⟩
          rw [hn] at x
          obtain ⟨p0, sk, y⟩ := x
          refine ⟨f, q, by omega, PN.mono (n := n + 1) ⟨p0, skip_more hc sk, y⟩ (by omega), r⟩
        · rw [if_neg h32, if_pos (by trivial)] at hs
          have sk : Skip t p p := skip_here (by rw [hc]; exact fun e => h32 (Option.some.inj e))
          unfold startS at hs
          by_cases h1 : c = 126
          · rw [if_pos h1] at hs; cases hs
            subst h1
            obtain ⟨f, q, lt, x, r⟩ := ihp (p + 1) ps (k + 1) gs (by omega) hr1
            exact ⟨.ng f, q, by omega, PN.mono (n := q - (p + 1) + 1) ⟨p, sk, .inl ⟨hc, f, rfl, x⟩⟩ (by omega), r⟩
          · rw [if_neg h1] at hs
            by_cases h2 : c = 40
            · rw [if_pos h2] at hs; cases hs
              subst h2
              obtain ⟨f, q, L, lt, x, hL, hg, n1, n2, r⟩ := ihf (p + 1) [] ((ps, k) :: gs) (by omega) hr1
              rw [List.nil_append] at r
              rcases acc_step r with e | ⟨s2, hs2, hr2⟩
              · injection e with _ e _; cases e
              cases hq : t[q]? with
              | none => unfold stepS at hs2; rw [hq] at hs2; cases hs2
              | some d =>
                rw [step_of hq] at hs2
                simp only at hs2
                rw [if_neg (fun e => n2 (by rw [hq, e])), if_neg (by decide)] at hs2
                unfold goS at hs2
                rw [if_neg (fun e => n1 (by rw [hq, e]))] at hs2
                by_cases h41 : d = 41
                · rw [if_pos h41] at hs2; cases hs2
                  refine ⟨f, q + 1, by omega, PN.mono (n := q - (p + 1) + 1 + 1) ⟨p, sk, .inr (.inl ⟨hc, q, rfl, x⟩)⟩ (by omega), ?_⟩
                  rw [← hg]; exact hr2
                · rw [if_neg h41] at hs2; cases hs2
            · rw [if_neg h2] at hs
              by_cases h3 : small c = true
              · rw [if_pos h3] at hs; cases hs
                have np := nameAt_pos t p c
                exact ⟨_, _, by omega, PN.mono (n := 0 + 1) ⟨p, sk, .inr (.inr ⟨c, hc, h3, rfl, rfl⟩)⟩ (by omega), hr1⟩
              · rw [if_neg h3] at hs; cases hs
    have tail : ∀ p ps f gs, t.length ≤ p + m → Run t ⟨p, (ps ++ [f], 0) :: gs, false⟩ ⟨t.length, [g], false⟩ → ∃ p2 q h L, p ≤ p2 ∧ p2 ≤ q ∧ Skip t p p2 ∧ ((t[p2]? = some 45 ∧ t[p2 + 1]? = some 62 ∧ p2 + 2 < q ∧ ∃ h', h = .im f h' ∧ PN t (q - (p2 + 2) + 1) true (p2 + 2) h' q) ∨ (¬ (t[p2]? = some 45 ∧ t[p2 + 1]? = some 62) ∧ h = f ∧ q = p2)) ∧ L ≠ [] ∧ grpF (f :: L.tail) = h ∧ L = f :: L.tail ∧ t[q]? ≠ some 45 ∧ t[q]? ≠ some 32 ∧ Run t ⟨q, (ps ++ L, 0) :: gs, false⟩ ⟨t.length, [g], false⟩ := by
      intro p ps f gs hm hr
      rcases acc_step hr with e | ⟨s1, hs, hr1⟩
      · have ep : p = t.length := by injection e
        have hn : t[p]? = none := List.getElem?_eq_none_iff.mpr (by omega)
        exact ⟨p, p, f, [f], Nat.le_refl _, Nat.le_refl _, skip_here (by rw [hn]; exact fun z => (nomatch z)), .inr ⟨by rw [hn]; exact fun z => (nomatch z.1), rfl, rfl⟩, List.cons_ne_nil _ _, rfl, rfl, by rw [hn]; exact fun z => (nomatch z), by rw [hn]; exact fun z => (nomatch z), hr⟩
      cases hc : t[p]? with
      | none => unfold stepS at hs; rw [hc] at hs; cases hs
      | some c =>
        have hp := (List.getElem?_eq_some_iff.mp hc).1
        obtain ⟨m', rfl⟩ : ∃ m', m = m' + 1 := ⟨m - 1, by omega⟩
        obtain ⟨_, ihf, iht⟩ := ih m' (Nat.lt_succ_self _)
        rw [step_of hc] at hs
        simp only at hs
        by_cases h32 : c = 32
        · rw [if_pos h32] at hs; cases hs
          subst h32
          obtain ⟨p2, q, h, L, l1, l2, sk, rest⟩ := iht (p + 1) ps f gs (by omega) hr1
          exact ⟨p2, q, h, L, by omega, l2, skip_more hc sk, rest⟩
        · rw [if_neg h32, if_neg (by decide)] at hs
          have sk : Skip t p p := skip_here (by rw [hc]; exact fun e => h32 (Option.some.inj e))
          by_cases h45 : c = 45
          · subst h45
            unfold goS at hs
            rw [if_pos rfl] at hs
            split at hs
            · rename_i h62
              cases hs
              obtain ⟨h', q, L, lt, x, hL, hg, n1, n2, r⟩ := ihf (p + 2) (ps ++ [f]) gs (by omega) hr1
              refine ⟨p, q, .im f h', f :: L, Nat.le_refl _, by omega, sk, .inl ⟨hc, h62, lt, h', rfl, x⟩, List.cons_ne_nil _ _, ?_, rfl, n1, n2, by rw [List.append_assoc] at r; exact r⟩
              show grpF (f :: L) = _
              rw [← hg]
              cases L with
              | nil => exact absurd rfl hL
              | cons a r => rfl
            · cases hs
          · exact ⟨p, p, f, [f], Nat.le_refl _, Nat.le_refl _, sk, .inr ⟨by rw [hc]; exact fun z => h45 (Option.some.inj z.1), rfl, rfl⟩, List.cons_ne_nil _ _, rfl, rfl, by rw [hc]; exact fun z => h45 (Option.some.inj z), by rw [hc]; exact fun z => h32 (Option.some.inj z), hr⟩
    refine ⟨part, ?_, tail⟩
    intro p ps gs hm hr
    obtain ⟨f, p1, lt, x, r⟩ := part p ps 0 gs hm hr
    obtain ⟨p2, q, h, L, l1, l2, sk, hh, hL, hg, eL, n1, n2, r2⟩ := tail p1 ps f gs (by omega) r
    refine ⟨h, q, L, by omega, ?_, hL, by rw [eL]; exact hg, n1, n2, r2⟩
    refine ⟨f, p1, p2, x.mono (by omega), sk, ?_⟩
    rcases hh with ⟨a, b, _, h', e, y⟩ | hh
    · exact .inl ⟨a, b, h', e, y.mono (by omega)⟩
    · exact .inr hh
/-- a text that the machine takes: the recursive reader finds the same -/
theorem parse_ok {t : List Nat} {g : Grp} (h : Run t s0 ⟨t.length, [g], false⟩) : ∃ q, PN t (t.length + 1) true 0 (grpF g.1) q := by
  obtain ⟨f, q, L, lt, x, hL, hg, n1, n2, r⟩ := (acc_both (t := t) (g := g) t.length).2.1 0 [] [] (by omega) h
  have e : q = t.length ∧ L = g.1 := by
    rcases acc_step r with e | ⟨s1, hs, hr1⟩
    · injection e with e1 e2 _
      have := (List.cons.inj e2).1
      exact ⟨e1, by rw [← this]; rfl⟩
    · exfalso
      cases hq : t[q]? with
      | none => unfold stepS at hs; rw [hq] at hs; cases hs
      | some d =>
        rw [step_of hq] at hs
        simp only at hs
        rw [if_neg (fun e => n2 (by rw [hq, e])), if_neg (by decide)] at hs
        unfold goS at hs
        rw [if_neg (fun e => n1 (by rw [hq, e]))] at hs
        split at hs
        · cases hs
        · cases hs
  rw [← e.2, hg]
  exact ⟨q, x.mono (by omega)⟩
end Cs
namespace Cs
open PySem PySem.Spec PyProof.Rows L2
theorem flt_end {t : List Nat} {s : RS} (h : s.p = t.length ∨ (s.wants = false ∧ t[s.p]? = some 45 ∧ s.p + 1 = t.length)) : fltS t s = (t.length, ("unexpected end" : Str)) := if_pos h
theorem flt_sign {t : List Nat} {s : RS} (h : s.p < t.length) (h2 : ¬ (s.wants = false ∧ t[s.p]? = some 45 ∧ s.p + 1 = t.length)) : fltS t s = (s.p, ("unexpected sign" : Str)) :=
  if_neg fun z => z.elim (fun z => by omega) h2
end Cs
namespace Cs
open PySem PySem.Spec PyProof.Rows L2
/-! ### slices and equality of texts -/
theorem cut_nat (t : List Nat) (a b : Nat) : cutS (SX.S t) (some (a : Int)) (some (b : Int)) = SX.S ((t.drop a).take (b - a)) := by
  unfold cutS
  rw [HT.sIx_nat, HT.sIx_nat, SX.S_len]
  refine congrArg SX.S ?_
  show List.take (min b t.length - min a t.length) (t.drop (min a t.length)) = _
  by_cases h : a < t.length
  · rw [show min a t.length = a by omega]
    by_cases h2 : b ≤ t.length
    · rw [show min b t.length = b by omega]
    · rw [List.take_of_length_le (by rw [List.length_drop]; omega), List.take_of_length_le (by rw [List.length_drop]; omega)]
  · rw [List.drop_eq_nil_of_le (by omega), List.drop_eq_nil_of_le (by omega)]; simp
theorem cut_from (t : List Nat) (a : Nat) : cutS (SX.S t) (some (a : Int)) none = SX.S (t.drop a) := by
  unfold cutS
  rw [HT.sIx_nat, HT.sIx_none, SX.S_len]
  refine congrArg SX.S ?_
  show List.take (t.length - min a t.length) (t.drop (min a t.length)) = _
  by_cases h : a < t.length
  · rw [show min a t.length = a by omega, List.take_of_length_le (by rw [List.length_drop]; omega)]
  · rw [List.drop_eq_nil_of_le (by omega), List.drop_eq_nil_of_le (by omega)]; simp
theorem cut_to (t : List Nat) (b : Nat) : cutS (SX.S t) none (some (b : Int)) = SX.S (t.take b) := by
  unfold cutS
  rw [HT.sIx_nat, HT.sIx_none, SX.S_len]
  refine congrArg SX.S ?_
  show List.take (min b t.length - 0) (t.drop 0) = _
  rw [List.drop_zero, Nat.sub_zero, ← List.take_eq_take_min]
theorem seq_dec (a b : List Nat) : decide (V.str (SX.S a) = V.str (SX.S b)) = decide (a = b) := by
  by_cases e : a = b
  · subst e; rw [decide_eq_true rfl, decide_eq_true rfl]
  · rw [decide_eq_false e, decide_eq_false fun h => e (SX.S_inj (V.str.inj h))]
theorem z_ar : ("->" : Str) = SX.S [45, 62] := by decide +kernel
theorem z_em : ("" : Str) = SX.S [] := by decide +kernel
theorem take2 {t : List Nat} {p : Nat} {c d : Nat} : (t.drop p).take 2 = [c, d] ↔ t[p]? = some c ∧ t[p + 1]? = some d := by
  have e0 : t[p]? = (t.drop p)[0]? := by rw [List.getElem?_drop]; rfl
  have e1 : t[p + 1]? = (t.drop p)[1]? := by rw [List.getElem?_drop]
  rw [e0, e1]
  generalize t.drop p = l
  match l with
  | [] => simp
  | [a] => simp
  | a :: b :: r => simp
theorem take1 {t : List Nat} {p : Nat} : (t.drop p).take 1 = (match t[p]? with | some d => [d] | none => []) := by
  have e0 : t[p]? = (t.drop p)[0]? := by rw [List.getElem?_drop]; rfl
  rw [e0]
  generalize t.drop p = l
  match l with
  | [] => rfl
  | a :: r => rfl
theorem cut_1 (t : List Nat) (p : Nat) : cutS (SX.S t) (some ((p : Int) + 1)) (some ((p : Int) + 2)) = SX.S (match t[p + 1]? with | some d => [d] | none => []) := by
  rw [show ((p : Int) + 1) = ((p + 1 : Nat) : Int) from rfl, show ((p : Int) + 2) = ((p + 2 : Nat) : Int) from rfl, cut_nat, show p + 2 - (p + 1) = 1 by omega, take1]
theorem cut_2 (t : List Nat) (p : Nat) : cutS (SX.S t) (some (p : Int)) (some ((p : Int) + 2)) = SX.S ((t.drop p).take 2) := by
  rw [show ((p : Int) + 2) = ((p + 2 : Nat) : Int) from rfl, cut_nat, show p + 2 - p = 2 by omega]
end Cs
namespace Cs
open PySem PySem.Spec PyProof.Rows L2
theorem PN.dep {t : List Nat} : ∀ {n : Nat} {b : Bool} {p : Nat} {f : Fm} {q : Nat}, PN t n b p f q → f.depth ≤ n
  | 0, _, _, _, _, h => h.elim
  | n + 1, false, p, f, q, h => by
    obtain ⟨p0, h0, h⟩ := h
    rcases h with ⟨a, g, rfl, x⟩ | ⟨a, q', e, x⟩ | ⟨c, _, _, rfl, _⟩
    · exact Nat.succ_le_succ x.dep
    · exact Nat.le_succ_of_le x.dep
    · exact Nat.succ_le_succ (Nat.zero_le _)
  | n + 1, true, p, g, q, h => by
    obtain ⟨f, p1, p2, x, sk, h⟩ := h
    rcases h with ⟨a, b, h, rfl, y⟩ | ⟨_, rfl, _⟩
    · have h1 := x.dep
      have h2 := y.dep
      show max f.depth h.depth + 1 ≤ n + 1
      omega
    · exact Nat.le_succ_of_le x.dep
/-- it comes to a stop -/
theorem run_stop (t : List Nat) : ∃ s, Run t s0 s ∧ stepS t s = none := by
  have key : ∀ (m : Nat) (s : RS), Bd s → t.length - s.p ≤ m → Run t s0 s → ∃ s', Run t s0 s' ∧ stepS t s' = none := by
    intro m
    induction m with
    | zero =>
      intro s _ hm r
      refine ⟨s, r, ?_⟩
      unfold stepS
      rw [List.getElem?_eq_none_iff.mpr (by omega)]
    | succ m ih =>
      intro s B hm r
      cases h : stepS t s with
      | none => exact ⟨s, r, h⟩
      | some s1 =>
        obtain ⟨B1, lt⟩ := bd_step B h
        have := step_le h
        exact ih s1 B1 (by omega) (r.snoc h)
  exact key t.length s0 ⟨fun x hx => by rw [List.mem_singleton.mp hx]; exact ⟨Nat.zero_le _, Nat.zero_le _⟩, Nat.le_refl _, (fun z => nomatch z), List.cons_ne_nil _ _⟩ (by omega) (.refl _)
end Cs

namespace Cs
open PySem PySem.Spec PyProof.Rows L2
/-! ### rows read with their faults: plain law -/
abbrev sg (t : Row) (j : Nat) : List Nat := (t.drop j).take 1
def stk (x : Nat) : Bool := decide (x = 45 ∨ x = 42 ∨ x = 43)
def strk (t : Row) (c : Nat) : List Nat := (t.drop c).takeWhile stk
/-- the sign that must stand before a condition -/
def wantC (W : List Nat) (c j : Nat) : Nat := if j = c then 96 else if j ∈ W then 124 else 32
def firstBad (t : Row) (W : List Nat) (c : Nat) : Option Nat := (List.range (c + 1)).find? fun j => sg t j != [wantC W c j]
/-- what stands before the strokes: the column of the fault, or the columns that wait, and where the strokes begin -/
def befR (i : Nat) (t : Row) (W : List Nat) : Nat ⊕ (List Nat × Nat) :=
  if i = 0 then .inr (W, 0) else match W.getLast? with
    | none => .inl 0
    | some c => match firstBad t W.dropLast c with
      | some j => .inl j
      | none => .inr (W.dropLast, c + 1)
def tailR (t : Row) (W : List Nat) (c : Nat) : Nat ⊕ (List Nat × Line) :=
  if (strk t c).getLast? ≠ some 45 ∨ sg t (c + (strk t c).length) ≠ [32] then .inl (c + (strk t c).length)
  else match sg t (c + (strk t c).length + 1) with
    | [x] => if small x then
        (if c + (strk t c).length + 1 + (nameAt t (c + (strk t c).length + 1) x).length < t.length then .inl (c + (strk t c).length + 1 + (nameAt t (c + (strk t c).length + 1) x).length)
         else .inr (W ++ plus c (strk t c), (strk t c, ⟨(nameAt t (c + (strk t c).length + 1) x).toArray⟩)))
      else .inl (c + (strk t c).length + 1)
    | _ => .inl (c + (strk t c).length + 1)
def rowR (i : Nat) (t : Row) (W : List Nat) : Nat ⊕ (List Nat × Line) := match befR i t W with
  | .inl j => .inl j
  | .inr (W1, c) => tailR t W1 c
def allR : Nat → List Row → List Nat → List Line → (Nat × Nat) ⊕ List Line
  | i, [], W, L => if W = [] ∧ i ≠ 0 then .inr L else .inl (i, 0)
  | i, t :: rs, W, L => match rowR i t W with
    | .inl c => .inl (i, c)
    | .inr (W1, l) => allR (i + 1) rs W1 (L ++ [l])
theorem bad_some {t : Row} {W : List Nat} {c j : Nat} (h : ∀ i, i < j → sg t i = [wantC W c i]) (b : sg t j ≠ [wantC W c j]) (l : j ≤ c) : firstBad t W c = some j := by
  unfold firstBad
  rw [List.find?_eq_some_iff_append]
  refine ⟨by simpa using b, List.range j, (List.range (c + 1)).drop (j + 1), ?_, fun i hi => ?_⟩
  · have e : (List.range (c + 1)).take j = List.range j := by rw [List.take_range, Nat.min_eq_left (by omega)]
    have e2 := List.take_append_drop j (List.range (c + 1))
    rw [e, List.drop_eq_getElem_cons (by rw [List.length_range]; omega), List.getElem_range] at e2
    exact e2.symm
  · rw [h i (List.mem_range.mp hi)]; simp
theorem bad_none {t : Row} {W : List Nat} {c : Nat} (h : ∀ i, i < c + 1 → sg t i = [wantC W c i]) : firstBad t W c = none := by
  unfold firstBad
  rw [List.find?_eq_none]
  intro i hi
  rw [h i (List.mem_range.mp hi)]; simp
theorem strk_split (t : Row) (c : Nat) : ∃ r, t.drop c = strk t c ++ r ∧ ∀ x, r.head? = some x → stk x = false := by
  refine ⟨(t.drop c).dropWhile stk, (List.takeWhile_append_dropWhile ..).symm, fun x hx => ?_⟩
  have := List.head?_dropWhile_not stk (t.drop c)
  rw [hx] at this
  simpa using this
theorem strk_all (t : Row) (c : Nat) : ∀ x ∈ strk t c, stk x = true := fun x hx => by
  unfold strk at hx
  have := List.all_takeWhile (p := stk) (l := t.drop c)
  exact List.all_eq_true.mp this x hx
/-- at the strokes and behind them -/
theorem strk_at (t : Row) (c k : Nat) (h : k < (strk t c).length) : t[c + k]? = some (strk t c)[k] := by
  obtain ⟨r, e, _⟩ := strk_split t c
  have : (t.drop c)[k]? = some (strk t c)[k] := by rw [e, List.getElem?_append_left h, List.getElem?_eq_getElem h]
  rw [← this, List.getElem?_drop]
theorem strk_end (t : Row) (c : Nat) : ∀ x, t[c + (strk t c).length]? = some x → stk x = false := by
  obtain ⟨r, e, h⟩ := strk_split t c
  intro x hx
  refine h x ?_
  have : (t.drop c)[(strk t c).length]? = some x := by rw [List.getElem?_drop]; exact hx
  rw [e, List.getElem?_append_right (Nat.le_refl _), Nat.sub_self] at this
  rw [List.head?_eq_getElem?]; exact this
theorem strk_le (t : Row) (c : Nat) (h : c ≤ t.length) : c + (strk t c).length ≤ t.length := by
  obtain ⟨r, e, _⟩ := strk_split t c
  have := congrArg List.length e
  rw [List.length_drop, List.length_append] at this
  omega
theorem strk_len (t : Row) (c : Nat) : (strk t c).length ≤ t.length := by
  obtain ⟨r, e, _⟩ := strk_split t c
  have := congrArg List.length e
  rw [List.length_drop, List.length_append] at this
  omega
theorem sg_cases (t : Row) (j : Nat) : (t[j]? = none ∧ sg t j = []) ∨ ∃ x, t[j]? = some x ∧ sg t j = [x] := by
  cases h : t[j]? with
  | none => exact .inl ⟨rfl, sig_non (List.getElem?_eq_none_iff.mp h)⟩
  | some x => exact .inr ⟨x, rfl, sig_get h⟩
/-- the number of conditionals -/
def cnt : List Nat → Nat
  | [] => 0
  | s :: r => if s = 43 then cnt r + 1 else cnt r
theorem plus_cnt : ∀ (S : List Nat) (c : Nat), (plus c S).length = cnt S
  | [], c => rfl
  | s :: r, c => by
    rw [plus_cons]
    unfold cnt
    split
    · rw [List.length_cons, plus_cnt r]
    · exact plus_cnt r _
theorem cnt_app : ∀ (A B : List Nat), cnt (A ++ B) = cnt A + cnt B
  | [], B => by simp [cnt]
  | a :: A, B => by
    have ih := cnt_app A B
    show (if a = 43 then cnt (A ++ B) + 1 else cnt (A ++ B)) = (if a = 43 then cnt A + 1 else cnt A) + cnt B
    rw [ih]
    split <;> omega
theorem cnt_rev (S : List Nat) : cnt S.reverse = cnt S := by
  induction S with
  | nil => rfl
  | cons a A ih =>
    rw [List.reverse_cons, cnt_app, ih]
    simp only [cnt]
    split <;> omega
/-- k conditions wait: the lines are just what they need -/
def RunK : Nat → List Line → Prop
  | 0, L => L = []
  | k + 1, [] => False
  | k + 1, l :: r => RunK (k + cnt l.1) r
/-- a row is what stands before, its strokes, and a name -/
inductive RL : List Row → List Line → Prop
  | nil : RL [] []
  | cons {pre S : List Nat} {n : Str} {rs : List Row} {L : List Line} : (pre = [] ∨ pre.getLast? = some 96) → (∀ x ∈ S, stk x = true) → Nm n → RL rs L → RL ((pre ++ (S ++ 32 :: n.cps.toList)) :: rs) ((S, n) :: L)
theorem run_one : ∀ (m : Nat) (L : List Line), L.length ≤ m → (∀ l ∈ L, ∀ x ∈ l.1, stk x = true) →
    (∀ k, RunK (k + 1) L → ∃ S n r f M, L = (S, n) :: r ∧ Pr S.reverse (.lt n) r f M ∧ RunK k M ∧ M.length < L.length ∧ ∀ l ∈ M, l ∈ L) ∧
    (∀ (R : List Nat) (f : Fm) (j : Nat), (∀ x ∈ R, stk x = true) → RunK (j + cnt R) L → ∃ g M, Pr R f L g M ∧ RunK j M ∧ M.length ≤ L.length ∧ ∀ l ∈ M, l ∈ L) := by
  intro m
  induction m with
  | zero =>
    intro L hm hs
    have e : L = [] := List.length_eq_zero_iff.mp (by omega)
    subst e
    refine ⟨fun k h => h.elim, fun R f j hR h => ?_⟩
    have part : ∀ (R : List Nat) (f : Fm), (∀ x ∈ R, stk x = true) → cnt R = 0 → ∃ g, Pr R f [] g [] := by
      intro R
      induction R with
      | nil => exact fun f _ _ => ⟨f, .nil⟩
      | cons a R ih =>
        intro f hR hc
        have ha := hR a List.mem_cons_self
        unfold stk at ha
        unfold cnt at hc
        rw [decide_eq_true_eq] at ha
        rcases ha with rfl | rfl | rfl
        · obtain ⟨g, p⟩ := ih f (fun x hx => hR x (List.mem_cons_of_mem _ hx)) (by simpa using hc)
          exact ⟨g, .dash p⟩
        · obtain ⟨g, p⟩ := ih (.ng f) (fun x hx => hR x (List.mem_cons_of_mem _ hx)) (by simpa using hc)
          exact ⟨g, .star p⟩
        · simp at hc
    have hc : j + cnt R = 0 := by
      cases e : j + cnt R with
      | zero => rfl
      | succ k => rw [e] at h; exact h.elim
    obtain ⟨g, p⟩ := part R f hR (by omega)
    have hj : j = 0 := by omega
    subst hj
    exact ⟨g, [], p, rfl, Nat.le_refl _, fun l h => h⟩
  | succ m ih =>
    intro L hm hs
    have one : ∀ k, RunK (k + 1) L → ∃ S n r f M, L = (S, n) :: r ∧ Pr S.reverse (.lt n) r f M ∧ RunK k M ∧ M.length < L.length ∧ ∀ l ∈ M, l ∈ L := by
      intro k h
      cases L with
      | nil => exact h.elim
      | cons l r =>
        obtain ⟨S, n⟩ := l
        have h' : RunK (k + cnt S) r := h
        obtain ⟨_, b⟩ := ih r (by rw [List.length_cons] at hm; omega) fun l hl => hs l (List.mem_cons_of_mem _ hl)
        obtain ⟨g, M, p, q, hM, hsub⟩ := b S.reverse (.lt n) k (fun x hx => hs _ List.mem_cons_self x (List.mem_reverse.mp hx)) (by rw [cnt_rev]; exact h')
        exact ⟨S, n, r, g, M, rfl, p, q, by rw [List.length_cons]; omega, fun l hl => List.mem_cons_of_mem _ (hsub l hl)⟩
    refine ⟨one, ?_⟩
    intro R
    induction R with
    | nil => exact fun f j _ h => ⟨f, L, .nil, h, Nat.le_refl _, fun l h => h⟩
    | cons a R ihR =>
      intro f j hR h
      have hR' : ∀ x ∈ R, stk x = true := fun x hx => hR x (List.mem_cons_of_mem _ hx)
      have ha := hR a List.mem_cons_self
      unfold stk at ha
      unfold cnt at h
      rw [decide_eq_true_eq] at ha
      rcases ha with rfl | rfl | rfl
      · obtain ⟨g, M, p, q⟩ := ihR f j hR' (by simpa using h)
        exact ⟨g, M, .dash p, q⟩
      · obtain ⟨g, M, p, q⟩ := ihR (.ng f) j hR' (by simpa using h)
        exact ⟨g, M, .star p, q⟩
      · rw [if_pos rfl, ← Nat.add_assoc] at h
        obtain ⟨S, n, r, h1, M, rfl, p, q, hM, hsub⟩ := one _ h
        obtain ⟨_, b⟩ := ih M (by rw [List.length_cons] at hM hm; omega) fun l hl => hs l (hsub l hl)
        obtain ⟨g, M2, p2, q2, hM2, hsub2⟩ := b R (.im h1 f) j hR' q
        exact ⟨g, M2, .plus p p2, q2, by omega, fun l hl => hsub l (hsub2 l hl)⟩
theorem tail_ok {t : Row} {W W1 : List Nat} {c : Nat} {l : Line} (hc : c ≤ t.length) (h : tailR t W c = .inr (W1, l)) : W1 = W ++ plus c (strk t c) ∧ l.1 = strk t c ∧ Nm l.2 ∧ t = t.take c ++ (l.1 ++ 32 :: l.2.cps.toList) ∧ W1.length = W.length + cnt l.1 := by
  unfold tailR at h
  split at h
  · cases h
  · rename_i h1
    have h32 : sg t (c + (strk t c).length) = [32] := Classical.byContradiction fun z => h1 (.inr z)
    split at h
    · rename_i x hx
      split at h
      · rename_i hs
        split at h
        · cases h
        · rename_i hl
          cases h
          have e32 : t[c + (strk t c).length]? = some 32 := by
            rcases sg_cases t (c + (strk t c).length) with ⟨_, e⟩ | ⟨y, e1, e2⟩
            · rw [e] at h32; cases h32
            · rw [e2] at h32; cases h32; exact e1
          have ex : t[c + (strk t c).length + 1]? = some x := by
            rcases sg_cases t (c + (strk t c).length + 1) with ⟨_, e⟩ | ⟨y, e1, e2⟩
            · rw [e] at hx; cases hx
            · rw [e2] at hx; cases hx; exact e1
          have hlen : t.length = c + (strk t c).length + 1 + (nameAt t (c + (strk t c).length + 1) x).length := by
            have := nameAt_le ex
            omega
          have hsp := strk_split t c
          have hnm : t.drop (c + (strk t c).length + 1) = nameAt t (c + (strk t c).length + 1) x := by
            have hd := List.length_drop (l := t) (i := c + (strk t c).length + 1)
            have hlt := (List.getElem?_eq_some_iff.mp ex)
            obtain ⟨l1, l2⟩ := hlt
            rw [List.drop_eq_getElem_cons l1, l2]
            unfold nameAt at hlen ⊢
            cases e2 : t[c + (strk t c).length + 1 + 1]? with
            | none =>
              rw [e2] at hlen
              rw [List.drop_eq_nil_of_le (by simp at hlen; omega)]
            | some d =>
              rw [e2] at hlen
              obtain ⟨m1, m2⟩ := List.getElem?_eq_some_iff.mp e2
              cases hd2 : digit d with
              | true =>
                simp only [hd2, if_true] at hlen ⊢
                rw [List.drop_eq_getElem_cons m1, m2, List.drop_eq_nil_of_le (by simp at hlen; omega)]
              | false =>
                simp only [hd2] at hlen ⊢
                simp at hlen
                omega
          have hnm2 : Nm (⟨(nameAt t (c + (strk t c).length + 1) x).toArray⟩ : Str) := by
            unfold nameAt
            cases e2 : t[c + (strk t c).length + 1 + 1]? with
            | none => exact ⟨x, hs, .inl rfl⟩
            | some d =>
              cases hd2 : digit d with
              | true => exact ⟨x, hs, .inr ⟨d, hd2, by simp [hd2]⟩⟩
              | false => exact ⟨x, hs, .inl (by simp [hd2])⟩
          refine ⟨rfl, rfl, hnm2, ?_, by rw [List.length_append, plus_cnt]⟩
          obtain ⟨r, er, _⟩ := hsp
          have e3 : r = 32 :: nameAt t (c + (strk t c).length + 1) x := by
            have : r = (t.drop c).drop (strk t c).length := by rw [er, List.drop_left]
            rw [this, List.drop_drop]
            obtain ⟨m1, m2⟩ := List.getElem?_eq_some_iff.mp e32
            rw [List.drop_eq_getElem_cons m1, m2, hnm]
          show t = t.take c ++ (strk t c ++ 32 :: nameAt t (c + (strk t c).length + 1) x)
          rw [← e3, ← er, List.take_append_drop]
      · cases h
    · cases h
theorem row_ok {i : Nat} {t : Row} {W W1 : List Nat} {l : Line} (h : rowR i t W = .inr (W1, l)) (h0 : i = 0 → W = []) : (∀ x ∈ l.1, stk x = true) ∧ (i ≠ 0 → W ≠ [] ∧ W1.length = W.length - 1 + cnt l.1) ∧ (i = 0 → W1.length = cnt l.1) ∧ Nm l.2 ∧ ∃ pre, t = pre ++ (l.1 ++ 32 :: l.2.cps.toList) ∧ (pre = [] ∨ pre.getLast? = some 96) := by
  unfold rowR befR at h
  by_cases hi : i = 0
  · subst hi
    have hW := h0 rfl
    subst hW
    rw [if_pos rfl] at h
    obtain ⟨a, b, c, d, e⟩ := tail_ok (Nat.zero_le _) h
    refine ⟨by rw [b]; exact strk_all t 0, fun z => absurd rfl z, fun _ => by rw [e]; simp, c, [], ?_, .inl rfl⟩
    rw [List.take_zero] at d; exact d
  · rw [if_neg hi] at h
    cases hl : W.getLast? with
    | none => rw [hl] at h; cases h
    | some c =>
      rw [hl] at h
      simp only at h
      cases hb : firstBad t W.dropLast c with
      | some j => rw [hb] at h; cases h
      | none =>
        rw [hb] at h
        simp only at h
        have hne : W ≠ [] := fun z => by rw [z] at hl; cases hl
        have h96 : sg t c = [96] := by
          unfold firstBad at hb
          have := List.find?_eq_none.mp hb c (List.mem_range.mpr (Nat.lt_succ_self _))
          have e : wantC W.dropLast c c = 96 := if_pos rfl
          rw [e] at this
          simpa using this
        have ec : t[c]? = some 96 := by
          rcases sg_cases t c with ⟨_, e⟩ | ⟨y, e1, e2⟩
          · rw [e] at h96; cases h96
          · rw [e2] at h96; cases h96; exact e1
        obtain ⟨m1, m2⟩ := List.getElem?_eq_some_iff.mp ec
        obtain ⟨a, b, cc, d, e⟩ := tail_ok m1 h
        refine ⟨by rw [b]; exact strk_all t _, fun _ => ⟨hne, by rw [e, List.length_dropLast]⟩, fun z => absurd z hi, cc, t.take (c + 1), d, .inr ?_⟩
        rw [List.take_succ, ec]
        simp
/-- what is read at last -/
theorem all_ok : ∀ (rows : List Row) (i : Nat) (W : List Nat) (L0 L : List Line), allR i rows W L0 = .inr L → (i = 0 → W = []) → ∃ L1, L = L0 ++ L1 ∧ RL rows L1 ∧ (∀ l ∈ L1, ∀ x ∈ l.1, stk x = true) ∧ (i ≠ 0 → RunK W.length L1) ∧ (i = 0 → RunK 1 L1)
  | [], i, W, L0, L, h, h0 => by
    unfold allR at h
    split at h
    · rename_i hc
      cases h
      exact ⟨[], by simp, .nil, fun l h => (nomatch h), fun _ => by rw [hc.1]; rfl, fun z => absurd z hc.2⟩
    · cases h
  | t :: rs, i, W, L0, L, h, h0 => by
    unfold allR at h
    cases hr : rowR i t W with
    | inl c => rw [hr] at h; cases h
    | inr p =>
      obtain ⟨W1, l⟩ := p
      rw [hr] at h
      simp only at h
      obtain ⟨a1, a2, a3, a4, pre, a5, a6⟩ := row_ok hr h0
      obtain ⟨L1, e, r, s, k, _⟩ := all_ok rs (i + 1) W1 (L0 ++ [l]) L h (fun z => absurd z (Nat.succ_ne_zero _))
      have k := k (Nat.succ_ne_zero _)
      obtain ⟨S, n⟩ := l
      refine ⟨(S, n) :: L1, by rw [e, List.append_assoc]; rfl, by rw [a5]; exact .cons a6 a1 a4 r, fun x hx => ?_, fun hi => ?_, fun hi => ?_⟩
      · rcases List.mem_cons.mp hx with rfl | hx
        · exact a1
        · exact s x hx
      · obtain ⟨b1, b2⟩ := a2 hi
        obtain ⟨q, hq⟩ : ∃ q, W.length = q + 1 := ⟨W.length - 1, by have := List.length_pos_iff.mpr b1; omega⟩
        rw [hq]
        show RunK (q + cnt S) L1
        rw [b2, hq] at k
        exact k
      · show RunK (0 + cnt S) L1
        rw [Nat.zero_add, ← a3 hi]; exact k
theorem draw_ok {rows : List Row} {L : List Line} (h : allR 0 rows [] [] = .inr L) : ∃ S n r g, L = (S, n) :: r ∧ Pr S.reverse (.lt n) r g [] ∧ RL rows L := by
  obtain ⟨L1, e, r, s, _, k⟩ := all_ok rows 0 [] [] L h fun _ => rfl
  rw [List.nil_append] at e
  subst e
  obtain ⟨S, n, r', f, M, rfl, p, q, _, _⟩ := (run_one L.length L (Nat.le_refl _) s).1 0 (k rfl)
  have : M = [] := by
    cases M with
    | nil => rfl
    | cons a b => exact q
  subst this
  exact ⟨S, n, r', f, rfl, p, r⟩
end Cs
namespace Cs
open PySem PySem.Spec PyProof.Rows L2
theorem bef_snoc {i : Nat} {t : Row} {W : List Nat} {c : Nat} (hi : i ≠ 0) : befR i t (W ++ [c]) = match firstBad t W c with | some j => .inl j | none => .inr (W, c + 1) := by
  unfold befR
  rw [if_neg hi, List.getLast?_append, List.dropLast_concat]
  rfl
theorem bef_bad {i j : Nat} {t : Row} {W : List Nat} {c : Nat} (hi : i ≠ 0) (h : firstBad t W c = some j) : befR i t (W ++ [c]) = .inl j := by
  rw [bef_snoc hi, h]
theorem bef_good {i : Nat} {t : Row} {W : List Nat} {c : Nat} (hi : i ≠ 0) (h : firstBad t W c = none) : befR i t (W ++ [c]) = .inr (W, c + 1) := by
  rw [bef_snoc hi, h]
theorem bef_none {i : Nat} {t : Row} (hi : i ≠ 0) : befR i t [] = .inl 0 := if_neg hi
theorem row_of {i : Nat} {t : Row} {W W1 : List Nat} {c : Nat} (h : befR i t W = .inr (W1, c)) : rowR i t W = tailR t W1 c := by
  unfold rowR; rw [h]
theorem row_bad {i j : Nat} {t : Row} {W : List Nat} (h : befR i t W = .inl j) : rowR i t W = .inl j := by
  unfold rowR; rw [h]
def lastL (S : List Nat) : List Nat := match S.getLast? with | some x => [x] | none => []
theorem lastL_eq {S : List Nat} {c : Nat} : lastL S = [c] ↔ S.getLast? = some c := by
  unfold lastL
  cases S.getLast? with
  | none => simp
  | some x => simp
theorem cut_last (S : List Nat) : cutS (SX.S S) (some (-1)) none = SX.S (lastL S) := by
  unfold lastL
  cases hl : S.getLast? with
  | none =>
    have : S = [] := List.getLast?_eq_none_iff.mp hl
    subst this
    rfl
  | some x =>
    have hne : S ≠ [] := fun z => by rw [z] at hl; cases hl
    rw [List.getLast?_eq_some_getLast hne] at hl
    have e : S = S.dropLast ++ [x] := by rw [← Option.some.inj hl]; exact (List.dropLast_concat_getLast hne).symm
    rw [e, C8.cutS_slice]
    exact SX.last_snoc _ _
theorem in_stk0 : inV (.str (SX.S [])) [.str "-", .str "*", .str "+"] = false := by decide +kernel
theorem in_stk1 (c : Nat) : inV (.str (SX.S [c])) [.str "-", .str "*", .str "+"] = stk c := in_stk c
end Cs
namespace Cs
open PySem PySem.Spec PyProof.Rows L2
theorem plus_lt {c : Nat} : ∀ {S : List Nat} {j : Nat}, j ∈ plus c S → j < c + S.length := by
  intro S
  induction S generalizing c with
  | nil => intro j h; cases h
  | cons s r ih =>
    intro j h
    rw [plus_cons] at h
    rw [List.length_cons]
    split at h
    · rcases List.mem_cons.mp h with rfl | h
      · omega
      · have := ih h; omega
    · have := ih h; omega
theorem tail_w {t : Row} {W W1 : List Nat} {c : Nat} {l : Line} (h : tailR t W c = .inr (W1, l)) : W1 = W ++ plus c (strk t c) ∧ l.1 = strk t c ∧ c + (strk t c).length ≤ t.length := by
  have hl : c + (strk t c).length ≤ t.length := by
    unfold tailR at h
    split at h
    · cases h
    · rename_i h1
      have h45 : (strk t c).getLast? = some 45 := Classical.byContradiction fun z => h1 (.inl z)
      have hne : strk t c ≠ [] := fun z => by rw [z] at h45; cases h45
      have hp := List.length_pos_iff.mpr hne
      have := strk_at t c ((strk t c).length - 1) (by omega)
      have := (List.getElem?_eq_some_iff.mp this).1
      omega
  unfold tailR at h
  split at h
  · cases h
  · split at h
    · split at h
      · split at h
        · cases h
        · cases h; exact ⟨rfl, rfl, hl⟩
      · cases h
    · cases h
theorem row_w {i : Nat} {t : Row} {W W1 : List Nat} {l : Line} {b : Nat} (h : rowR i t W = .inr (W1, l)) (hW : ∀ c ∈ W, c ≤ b) (ht : t.length ≤ b) : (∀ c ∈ W1, c ≤ b) ∧ W1.length ≤ W.length + t.length ∧ l.1.length ≤ t.length := by
  unfold rowR at h
  cases hb : befR i t W with
  | inl j => rw [hb] at h; cases h
  | inr p =>
    obtain ⟨W0, c⟩ := p
    rw [hb] at h
    obtain ⟨rfl, e, le⟩ := tail_w h
    have sub : (∀ x ∈ W0, x ∈ W) ∧ W0.length ≤ W.length := by
      unfold befR at hb
      split at hb
      · cases hb; exact ⟨fun x h => h, Nat.le_refl _⟩
      · split at hb
        · cases hb
        · split at hb
          · cases hb
          · cases hb; exact ⟨fun x h => List.dropLast_subset _ h, by rw [List.length_dropLast]; omega⟩
    have pl := plus_len (strk t c) c
    refine ⟨fun x hx => ?_, by rw [List.length_append]; omega, by rw [e]; omega⟩
    rcases List.mem_append.mp hx with hx | hx
    · exact hW x (sub.1 x hx)
    · have := plus_lt hx; omega
theorem all_cons {i : Nat} {t : Row} {rs : List Row} {W : List Nat} {L : List Line} : allR i (t :: rs) W L = match rowR i t W with | .inl c => .inl (i, c) | .inr (W1, l) => allR (i + 1) rs W1 (L ++ [l]) := rfl
theorem all_nil {i : Nat} {W : List Nat} {L : List Line} : allR i [] W L = if W = [] ∧ i ≠ 0 then .inr L else .inl (i, 0) := rfl
end Cs
namespace Cs
open PySem PySem.Spec PyProof.Rows L2
theorem in_stk2 (c : Nat) : decide (c ∈ ("-*+" : Str).cps.toList) = stk c := by
  have e : ("-*+" : Str).cps.toList = [45, 42, 43] := by decide +kernel
  rw [e]
  unfold stk
  rw [Bool.eq_iff_iff, decide_eq_true_eq, decide_eq_true_eq]
  simp
theorem cut_1' (t : List Nat) (p : Nat) : cutS (SX.S t) (some ((p : Int) + 1)) (some ((p : Int) + 2)) = SX.S ((t.drop (p + 1)).take 1) := by
  rw [show ((p : Int) + 1) = ((p + 1 : Nat) : Int) from rfl, show ((p : Int) + 2) = ((p + 2 : Nat) : Int) from rfl, cut_nat, show p + 2 - (p + 1) = 1 by omega]
theorem lastL_take {S : List Nat} {k : Nat} (h : k < S.length) : lastL (S.take (k + 1)) = [S[k]] := by
  rw [lastL_eq, List.take_succ_eq_append_getElem h, List.getLast?_append]
  rfl
def barC (W : List Nat) (j : Nat) : Nat := if j ∈ W then 124 else 32
end Cs
namespace Cs
open PySem PySem.Spec PyProof.Rows L2
theorem cut_at2 (t : List Nat) (p : Nat) : cutS (SX.S t) (some ((p : Int) + 2)) (some ((p : Int) + 2 + 1)) = SX.S ((t.drop (p + 2)).take 1) := by
  rw [show ((p : Int) + 2) = ((p + 2 : Nat) : Int) from rfl, cut_at]
theorem sg_len (t : Row) (j : Nat) : (sg t j).length ≤ 1 := by rw [List.length_take]; omega
end Cs
namespace Cs
open PySem PySem.Spec PyProof.Rows L2
theorem call_listK {X : Cx} {K : PySem.W.Frag} (hK : X.K = K) : CallR X (.type "list") (fun xs H Q => ∃ p ys, xs = [.ref p] ∧ (SqL K H p ys ∨ SqT K H p ys) ∧ ∀ l : Addr, H l = none → Q (.ref l) (upd H l (.lst ys))) := by
  subst hK
  exact call_list_of
theorem call_tupleK {X : Cx} {K : PySem.W.Frag} (hK : X.K = K) : CallR X (.type "tuple") (fun xs H Q => ∃ p ys, xs = [.ref p] ∧ ((SqL K H p ys ∧ ∀ l : Addr, H l = none → Q (.ref l) (upd H l (.tup ys))) ∨ SqT K H p ys ∧ Q (.ref p) H)) := by
  subst hK
  exact call_tuple_of
end Cs

namespace Cs
open PySem PySem.Spec PyProof.Rows L2
/-! ### what stands at the module's top: formulas, a dict of them, tuples of whole numbers -/
/-- a formula that stands written -/
def rdFm (K : PySem.W.Frag) : Nat → Value → Option Fm
  | 0, _ => none
  | n + 1, .ref a => match K.lookup a with
    | some o => match o.cls, o.data with
      | .type c, .seq its _ => if c = "tuple" then match its.toList with
          | [.str t _, .str y _] => if t = "letter" then some (.lt y) else none
          | [.str t _, .ref x] => if t = "not" then (rdFm K n (.ref x)).map .ng else none
          | [.str t _, .ref x, .ref y] => if t = "if" then match rdFm K n (.ref x), rdFm K n (.ref y) with
              | some p, some q => some (.im p q)
              | _, _ => none
            else none
          | _ => none
        else none
      | _, _ => none
    | none => none
  | _ + 1, _ => none
theorem rd_dt {K : PySem.W.Frag} {H : Hp} : ∀ {n : Nat} {v : Value} {f : Fm}, rdFm K n v = some f → ∃ a, v = .ref a ∧ FmV K H (.ref a) f
  | 0, _, _, h => nomatch h
  | n + 1, v, f, h => by
    unfold rdFm at h
    split at h
    · cases h
    · rename_i m a e
      cases e
      split at h
      · rename_i o ho
        split at h
        · rename_i c its k hc hd
          split at h
          · rename_i ec
            subst ec
            have sq : ∀ {xs : List V}, its.toList.length ≤ 3 → Vals xs its.toList → SqT K H a xs := fun hz hv => .inr ⟨o, its, k, ho, hc, hd, by rw [← Array.length_toList]; exact szle (m := 3) hz (by decide), hv⟩
            split at h
            · rename_i t t1 y t2 el
              split at h
              · rename_i et
                subst et
                cases h
                refine ⟨a, rfl, mk_lt (sq (by rw [el]; simp) ?_)⟩
                rw [el]
                exact .cons ⟨_, rfl⟩ (.cons ⟨_, rfl⟩ .nil)
              · cases h
            · rename_i t t1 x el
              split at h
              · rename_i et
                subst et
                cases hx : rdFm K n (.ref x) with
                | none => rw [hx] at h; cases h
                | some p =>
                  rw [hx] at h
                  cases h
                  obtain ⟨b, eb, hb⟩ := rd_dt (H := H) hx
                  cases eb
                  refine ⟨a, rfl, mk_ng (sq (by rw [el]; simp) ?_) hb⟩
                  rw [el]
                  exact .cons ⟨_, rfl⟩ (.cons rfl .nil)
              · cases h
            · rename_i t t1 x y el
              split at h
              · rename_i et
                subst et
                split at h
                · rename_i p q hp hq
                  cases h
                  obtain ⟨b, eb, hb⟩ := rd_dt (H := H) hp
                  cases eb
                  obtain ⟨c, ec, hc2⟩ := rd_dt (H := H) hq
                  cases ec
                  refine ⟨a, rfl, mk_im (sq (by rw [el]; simp) ?_) hb hc2⟩
                  rw [el]
                  exact .cons ⟨_, rfl⟩ (.cons rfl (.cons rfl .nil))
                · cases h
              · cases h
            · cases h
          · cases h
        · cases h
      · cases h
    · cases h
/-- a dict from whole numbers to formulas -/
def rdAx (K : PySem.W.Frag) (n : Nat) : List DictEntry → Option (List (Int × Fm))
  | [] => some []
  | e :: r => match e.key with
    | .int i _ => if e.hash = hashInt i then match rdFm K n e.val, rdAx K n r with
        | some f, some l => some ((i, f) :: l)
        | _, _ => none
      else none
    | _ => none
structure KAx (K : PySem.W.Frag) (d : Addr) (l : List (Int × Fm)) : Prop where
  ex : ∃ es n k, K.lookup d = some ⟨.type "dict", none, .dict es n, #[]⟩ ∧ rdAx K k es.toList = some l
theorem rdAx_ok {K : PySem.W.Frag} {k : Nat} : ∀ {es : List DictEntry} {l : List (Int × Fm)}, rdAx K k es = some l →
    (∀ e ∈ es, ∃ i t, e.key = .int i t ∧ e.hash = hashInt i) ∧ ∀ i : Int, (l.lookup i = none ∧ es.find? (fun e => Value.isInt i e.key) = none) ∨ ∃ f e, l.lookup i = some f ∧ es.find? (fun e => Value.isInt i e.key) = some e ∧ rdFm K k e.val = some f
  | [], l, h => by
    cases h
    exact And.intro (fun e h => nomatch h) (fun i => Or.inl ⟨rfl, rfl⟩)
  | e :: r, l, h => by
    unfold rdAx at h
    split at h
    · rename_i j t ek
      split at h
      · rename_i eh
        split at h
        · rename_i f l' hf hl
          cases h
          obtain ⟨a, b⟩ := rdAx_ok hl
          refine ⟨fun x hx => ?_, fun i => ?_⟩
          · rcases List.mem_cons.mp hx with rfl | hx
            · exact ⟨j, t, ek, eh⟩
            · exact a x hx
          · by_cases hij : i = j
            · subst hij
              refine .inr ⟨f, e, by simp [List.lookup], ?_, hf⟩
              rw [List.find?_cons, ek]
              simp [Value.isInt]
            · have e1 : ((j, f) :: l').lookup i = l'.lookup i := by
                have : (i == j) = false := by simpa using hij
                simp [List.lookup, this]
              have e2 : (e :: r).find? (fun e => Value.isInt i e.key) = r.find? (fun e => Value.isInt i e.key) := by
                rw [List.find?_cons, ek]
                have : Value.isInt i (.int j t) = false := by simp [Value.isInt]; exact fun z => hij z.symm
                rw [this]
              rw [e1, e2]
              exact b i
        · cases h
      · cases h
    · cases h
theorem KAx.map {K : PySem.W.Frag} {d : Addr} {l : List (Int × Fm)} {prog : Program} {w : World} {h : Heap} (D : KAx K d l) (X : K.In h) :
    ∃ f : Int → Option Value, h.MapOf (PySem.intKind prog w) d f ∧ ∀ i, (l.lookup i = none ∧ f i = none) ∨ ∃ g u, l.lookup i = some g ∧ f i = some u ∧ ∀ H : Hp, ∃ a, u = .ref a ∧ FmV K H (.ref a) g := by
  obtain ⟨es, n, k, hl, hr⟩ := D.ex
  obtain ⟨a, b⟩ := rdAx_ok hr
  refine ⟨fun i => findBy Value.isInt es i, ⟨_, es, n, X _ _ hl, ⟨rfl, rfl, rfl⟩, rfl, fun e he => ?_, fun _ => rfl⟩, fun i => ?_⟩
  · obtain ⟨i, t, e1, e2⟩ := a e (Array.mem_toList_iff.mpr he)
    exact ⟨i, by rw [e1]; simp [PySem.intKind, Value.isInt], e2⟩
  · have ef : findBy Value.isInt es i = (es.toList.find? fun e => Value.isInt i e.key).map (·.val) := by
      unfold findBy
      rw [← Array.find?_toList]
    show _ ∨ ∃ g u, _ ∧ findBy Value.isInt es i = some u ∧ _
    rcases b i with ⟨b1, b2⟩ | ⟨f, e, b1, b2, b3⟩
    · refine .inl ⟨b1, ?_⟩
      show findBy Value.isInt es i = none
      rw [ef, b2]; rfl
    · refine .inr ⟨f, e.val, b1, by rw [ef, b2]; rfl, fun H => rd_dt b3⟩
section
variable {X : Cx}
/-- AXIOMS[k] -/
def rAx (K : PySem.W.Frag) : R2 := fun x y H Q => ∃ (d : Addr) (l : List (Int × Fm)) (i : Int) (f : Fm), x = .ref d ∧ y = .int i ∧ KAx K d l ∧ l.lookup i = some f ∧ ∀ v : V, FmV K H v f → Q v H
theorem ix_ax : IxR X (rAx X.K) := by
  intro value slice pins s σ H x y v u Q I rx ry h hs
  obtain ⟨d, l, i, f, rfl, rfl, D, e, q⟩ := h
  obtain rfl : v = Value.ref d := rx
  obtain ⟨t, rfl⟩ := ry
  obtain ⟨F, hm, hF⟩ := D.map (prog := X.prog) (w := X.w) I.kIn
  rcases hF i with ⟨e1, _⟩ | ⟨g, u0, e1, e2, hv⟩
  · rw [e] at e1; cases e1
  · rw [e] at e1
    cases e1
    obtain ⟨a, rfl, ha⟩ := hv H
    exact tail_any hm.typeIs slot_dict_getitem.lookup (wpAny_getItem_of (k := i) (by simp [PySem.intKind, Value.isInt]) hm e2 ⟨.ref a, H, I.tok _, rfl, q _ ha⟩) hs
/-- k not in AXIOMS, k in AXIOMS -/
theorem op_notInAx : OpR X (compareOp .NotIn) (fun x y H Q => ∃ (d : Addr) (l : List (Int × Fm)) (i : Int), x = .int i ∧ y = .ref d ∧ KAx X.K d l ∧ (d == sysModules) = false ∧ Q (.bl (!(l.lookup i).isSome)) H) := by
  intro pins s σ H x y v u Q I rx ry h
  obtain ⟨d, l, i, rfl, rfl, D, lo, q⟩ := h
  obtain ⟨t, rfl⟩ := rx
  cases ry
  obtain ⟨F, hm, hF⟩ := D.map (prog := X.prog) (w := X.w) I.kIn
  refine wpAny_notIn_of (k := i) (by simp [PySem.intKind, Value.isInt]) lo hm ?_
  have e : (F i).isSome = (l.lookup i).isSome := by
    rcases hF i with ⟨e1, e2⟩ | ⟨g, u0, e1, e2, _⟩ <;> rw [e1, e2] <;> rfl
  rw [e]
  exact ⟨.bl _, H, I.tok _, rfl, q⟩
end
/-- whole numbers that stand written -/
def rdInts (K : PySem.W.Frag) : Value → Option (List Int)
  | .ref a => match K.lookup a with
    | some o => match o.cls, o.data with
      | .type c, .seq its _ => if c = "tuple" ∧ its.toList.length ≤ 100 then its.toList.mapM (fun v => match v with | .int i _ => some i | _ => none) else none
      | _, _ => none
    | none => none
  | _ => none
theorem mapM_vals : ∀ {l : List Value} {ns : List Int}, l.mapM (fun v => match v with | .int i _ => some i | _ => none) = some ns → Vals (ns.map V.int) l
  | [], ns, h => by cases h; exact .nil
  | v :: l, ns, h => by
    rw [List.mapM_cons] at h
    cases v with
    | int i t =>
      cases hl : l.mapM (fun v => match v with | .int i _ => some i | _ => none) with
      | none => rw [hl] at h; cases h
      | some ms =>
        rw [hl] at h
        cases h
        exact .cons ⟨_, rfl⟩ (mapM_vals hl)
    | _ => cases h
theorem rdInts_ok {K : PySem.W.Frag} {H : Hp} {v : Value} {ns : List Int} (h : rdInts K v = some ns) : ∃ a, v = .ref a ∧ SqT K H a (ns.map V.int) := by
  unfold rdInts at h
  split at h
  · rename_i a
    split at h
    · rename_i o ho
      split at h
      · rename_i c its k hc hd
        split at h
        · rename_i ec
          obtain ⟨rfl, hz⟩ := ec
          exact ⟨a, rfl, .inr ⟨o, its, k, ho, hc, hd, by rw [← Array.length_toList]; exact szle (m := 100) hz (by decide), mapM_vals h⟩⟩
        · cases h
      · cases h
    · cases h
  · cases h
end Cs

namespace Cs
open PySem PySem.Spec PyProof.Rows L2
/-! ### zip of two tuples in a generator expression -/
theorem gt_zipT {K : PySem.W.Frag} {a b : Addr} {xs zs : List V} {E : Eat} {Qe : List V → Hp → Prop} {g : TG} {tt : L2.TT} {te : TE} {vs : List Nat} {σ : L2.St} {H : Hp} (hlen : xs.length = zs.length) (Pv : Nat → List V → Hp → Prop) (h0 : Pv 0 [] H)
    (hl : ∀ i ys H, i ≤ xs.length → Pv i ys H → SqT K H a xs ∧ SqT K H b zs)
    (hs : ∀ i x z ys T H, xs[i]? = some x → zs[i]? = some z → Pv i ys H → H T = none → g (.ref T) (wipe σ vs) (upd H T (.tup [x, z])) fun σ2 H2 => wipe σ2 vs = wipe σ vs ∧ tt σ2 H2 fun b H3 => if b = true then te σ2 H3 fun y H4 => E ys y H4 (Pv (i + 1) (ys ++ [y]) H4) else Pv (i + 1) ys H3)
    (hd : ∀ ys H, Pv xs.length ys H → Qe ys H) : ∃ W, (∃ m, W 0 m [] H) ∧ GTurn E Qe (RZ.ItzT K a b) g tt te (wipe σ vs) vs W := by
  refine ⟨fun i m ys H => m = xs.length - i ∧ i ≤ xs.length ∧ Pv i ys H, ⟨xs.length, by simp, Nat.zero_le _, h0⟩, ?_⟩
  rintro i m ys H ⟨rfl, hi, p⟩
  obtain ⟨q, q2⟩ := hl i ys H hi p
  by_cases hlt : i < xs.length
  · have hlt2 : i < zs.length := by omega
    refine .inr ⟨⟨xs, zs, xs[i], zs[i], q, q2, by simp [hlt], by simp [hlt2]⟩, Pv (i + 1), fun ys' H' p' => ⟨xs.length - (i + 1), by omega, rfl, hlt, p'⟩, fun x H' y => ?_⟩
    obtain ⟨T, x1, z1, rfl, hT, rfl, f1, f2⟩ := y
    exact hs i x1 z1 ys T H (f1 xs q) (f2 zs q2) p hT
  · have e : i = xs.length := by omega
    subst e
    exact .inl ⟨⟨xs, zs, q, q2, Or.inl (Nat.le_refl _)⟩, hd ys H p⟩
theorem take_sum : ∀ (l : List Fm) (i : Nat), ((l.take i).map Fm.size).sum ≤ (l.map Fm.size).sum
  | [], i => by simp
  | g :: l, 0 => by simp
  | g :: l, i + 1 => by
    have := take_sum l i
    simp only [List.take_succ_cons, List.map_cons, List.sum_cons]
    omega
theorem cut_tl (x : V) (xs : List V) : cutV (x :: xs) (some 1) none = xs := by
  unfold cutV
  rw [show HT.sIx (x :: xs).length 0 (some 1) = 1 from (HT.sIx_nat _ 0 1).trans (by rw [List.length_cons]; omega), HT.sIx_none]
  show List.take ((xs.length + 1) - 1) xs = xs
  exact List.take_of_length_le (by omega)
theorem cut_ok (x : V) (xs : List V) : ¬ (HT.sIx (x :: xs).length 0 (some 1) = 0 ∧ HT.sIx (x :: xs).length (x :: xs).length none = (x :: xs).length) := by
  rw [show HT.sIx (x :: xs).length 0 (some 1) = 1 from (HT.sIx_nat _ 0 1).trans (by rw [List.length_cons]; omega)]
  exact fun z => absurd z.1 (by decide)
theorem kids_size {f : Fm} (h : f.isLt = false) : 1 + (f.kids.map Fm.size).sum = f.size := by
  cases f with
  | lt _ => cases h
  | ng p => simp [Fm.kids, Fm.size]
  | im p q => simp [Fm.kids, Fm.size]
theorem pg_tupK {X : Cx} {K : PySem.W.Frag} {es : List Expr} {kk n : Nat} {pos : Pos} {t : TGs} (hK : X.K = K) (hc : X.calm = true) (h : PGs X es t) (h1 : (assignEach es X.env).length = n := by rfl) (h2 : List.findIdx? (fun x => x.fst) (assignEach es X.env) = none := by rfl) :
    PG X (.Tuple es kk pos) (gTup K n t) := by
  subst hK
  exact pg_tup hc h h1 h2
/-! ### formulas compared -/
/-- names without broken signs -/
def Fm.Pl (f : Fm) : Prop := ∀ x ∈ f.lets, PyData.strOk x = true
theorem Fm.Pl.ng {p : Fm} (h : Pl (.ng p)) : Pl p := h
theorem Fm.Pl.l {p q : Fm} (h : Pl (.im p q)) : Pl p := fun x hx => h x (List.mem_append_left _ hx)
theorem Fm.Pl.r {p q : Fm} (h : Pl (.im p q)) : Pl q := fun x hx => h x (List.mem_append_right _ hx)
theorem Fm.d_lay : ∀ f : Fm, f.Pl → f.d.canLay0 = true
  | .lt n, h => by
    have := h n (List.mem_singleton_self _)
    simp [Fm.d, PyData.canLay0, PyData.canLayAll0, this]; decide +kernel
  | .ng p, h => by
    have := d_lay p h.ng
    simp [Fm.d, PyData.canLay0, PyData.canLayAll0, this]; decide +kernel
  | .im p q, h => by
    have h1 := d_lay p h.l
    have h2 := d_lay q h.r
    simp [Fm.d, PyData.canLay0, PyData.canLayAll0, h1, h2]; decide +kernel
theorem Fm.d_shaped {f : Fm} (p : f.Pl) (h : f.depth ≤ 64) : SeqAt.shaped f.d = true := by
  unfold SeqAt.shaped
  rw [f.d_lay p, Fm.d_depth]
  simpa using h
theorem eqv_tup (xs ys : List PyData) : PyData.eqv (.tuple xs) (.tuple ys) = PyData.eqvAll xs ys := by rw [PyData.eqv]
theorem eqv_str (a b : Str) : PyData.eqv (.str a) (.str b) = decide (a = b) := by
  rw [PyData.eqv, Bool.eq_iff_iff]; simp
theorem eqvA_cons (x y : PyData) (xs ys : List PyData) : PyData.eqvAll (x :: xs) (y :: ys) = (PyData.eqv x y && PyData.eqvAll xs ys) := by rw [PyData.eqvAll]
theorem eqvA_nil : PyData.eqvAll [] [] = true := by rw [PyData.eqvAll]
theorem eqvA_nc (x : PyData) (xs : List PyData) : PyData.eqvAll [] (x :: xs) = false := by rw [PyData.eqvAll] <;> simp
theorem eqvA_cn (x : PyData) (xs : List PyData) : PyData.eqvAll (x :: xs) [] = false := by rw [PyData.eqvAll] <;> simp
theorem Fm.d_eqv : ∀ f g : Fm, PyData.eqv f.d g.d = decide (f = g) := by
  have s1 : decide (("letter" : Str) = "not") = false := by decide +kernel
  have s2 : decide (("letter" : Str) = "if") = false := by decide +kernel
  have s3 : decide (("not" : Str) = "if") = false := by decide +kernel
  have s4 : decide (("not" : Str) = "letter") = false := by decide +kernel
  have s5 : decide (("if" : Str) = "letter") = false := by decide +kernel
  have s6 : decide (("if" : Str) = "not") = false := by decide +kernel
  intro f
  induction f with
  | lt n => intro g; cases g <;> simp only [Fm.d, eqv_tup, eqvA_cons, eqvA_nil, eqvA_nc, eqvA_cn, eqv_str, s1, s2] <;> simp
  | ng p ih => intro g; cases g <;> simp only [Fm.d, eqv_tup, eqvA_cons, eqvA_nil, eqvA_nc, eqvA_cn, eqv_str, s3, s4, ih] <;> simp
  | im p q ih1 ih2 => intro g; cases g <;> simp only [Fm.d, eqv_tup, eqvA_cons, eqvA_nil, eqvA_nc, eqvA_cn, eqv_str, s5, s6, ih1, ih2] <;> simp
/-! ### tables with their order -/
abbrev Tl := List (Str × Fm)
def look (l : Tl) (n : Str) : Option Fm := (l.find? fun p => decide (p.1 = n)).map (·.2)
def keysT (l : Tl) : List Str := l.map (·.1)
structure Tk (K : PySem.W.Frag) (H : Hp) (d : Addr) (l : Tl) : Prop where
  ex : ∃ kvs : List (Key × V), H d = some (.dK kvs) ∧ kvs.map (·.1) = (keysT l).map Sum.inr ∧ DtAll K H (kvs.map (·.2)) (l.map fun p => p.2.d)
theorem Tk.new {K : PySem.W.Frag} {H : Hp} {d : Addr} (h : H d = some (.dK [])) : Tk K H d [] := ⟨[], h, rfl, .nil⟩
theorem Tk.gx {K : PySem.W.Frag} {S : List Addr} {H H' : Hp} {d : Addr} {l : Tl} (x : Gx S H H') (n : d ∉ S) (T : Tk K H d l) : Tk K H' d l := by
  obtain ⟨kvs, h1, h2, h3⟩ := T.ex
  exact ⟨kvs, x.keep _ _ n h1 (fun ps e => nomatch e), h2, x.dts h3⟩
theorem look_cons (p : Str × Fm) (l : Tl) (n : Str) : look (p :: l) n = if p.1 = n then some p.2 else look l n := by
  unfold look
  rw [List.find?_cons]
  by_cases h : p.1 = n
  · simp [h]
  · simp [h]
theorem tk_val {K : PySem.W.Frag} {H : Hp} : ∀ {kvs : List (Key × V)} {l : Tl}, kvs.map (·.1) = (keysT l).map Sum.inr → DtAll K H (kvs.map (·.2)) (l.map fun p => p.2.d) →
    ∀ n, (look l n = none ∧ valV kvs (.inr n) = none) ∨ ∃ f v, look l n = some f ∧ valV kvs (.inr n) = some v ∧ FmV K H v f
  | [], [], _, _, n => .inl ⟨rfl, rfl⟩
  | [], p :: l, h, _, _ => nomatch h
  | kv :: kvs, [], h, _, _ => nomatch h
  | (k, v) :: kvs, (m, f) :: l, h, h2, n => by
    have h1 : k = Sum.inr m ∧ kvs.map (·.1) = (keysT l).map Sum.inr := ⟨(List.cons.inj h).1, (List.cons.inj h).2⟩
    obtain ⟨rfl, hr⟩ := h1
    cases h2 with
    | cons hv h2 =>
    rw [look_cons]
    have e : valV ((Sum.inr m, v) :: kvs) (Sum.inr n : Key) = if m = n then some v else valV kvs (Sum.inr n) := by
      unfold valV
      rw [List.find?_cons]
      by_cases q : m = n
      · simp [q]
      · have : ¬ (Sum.inr m : Key) = Sum.inr n := fun z => q (Sum.inr.inj z)
        simp [q]
    rw [e]
    by_cases q : m = n
    · exact .inr ⟨f, v, by rw [if_pos q], by rw [if_pos q], hv⟩
    · rw [if_neg q, if_neg q]; exact tk_val hr h2 n
theorem tk_len {kvs : List (Key × V)} {l : Tl} (h : kvs.map (·.1) = (keysT l).map Sum.inr) : kvs.length = l.length := by
  have := congrArg List.length h
  simpa [keysT] using this
theorem Tk.tb {K : PySem.W.Frag} {H : Hp} {d : Addr} {l : Tl} (T : Tk K H d l) : Tb K H d l.length (look l) := by
  obtain ⟨kvs, h1, h2, h3⟩ := T.ex
  exact ⟨kvs, h1, Nat.le_of_eq (tk_len h2), tk_val h2 h3⟩
/-- a new letter -/
theorem Tk.app {K : PySem.W.Frag} {H : Hp} {d : Addr} {l : Tl} {kvs : List (Key × V)} {n : Str} {f : Fm} {v : V} (h1 : H d = some (.dK kvs)) (h2 : kvs.map (·.1) = (keysT l).map Sum.inr) (h3 : DtAll K H (kvs.map (·.2)) (l.map fun p => p.2.d)) (hn : look l n = none) (hf : FmV K H v f) :
    Tk K (upd H d (.dK (putK kvs (.inr n) v))) d (l ++ [(n, f)]) := by
  have g : Gx [d] H (upd H d (.dK (putK kvs (.inr n) v))) := Gx.set h1 rfl
  have e : putK kvs (.inr n) v = kvs ++ [(.inr n, v)] := by
    unfold putK
    rw [if_neg]
    intro z
    obtain ⟨kv, m1, m2⟩ := List.any_eq_true.mp z
    have hv : (kvs.find? fun kv => decide (kv.1 = (Sum.inr n : Key))).isSome = true := by
      rw [List.find?_isSome]; exact ⟨kv, m1, m2⟩
    rcases tk_val h2 h3 n with ⟨_, b⟩ | ⟨f, v, a, _⟩
    · unfold valV at b
      rw [Option.map_eq_none_iff] at b
      rw [b] at hv; cases hv
    · rw [a] at hn; cases hn
  refine ⟨kvs ++ [(.inr n, v)], by rw [← e]; exact upd_same, by rw [List.map_append, h2]; simp [keysT], ?_⟩
  rw [List.map_append, List.map_append]
  exact DtAll.app (g.dts h3) (.cons (g.dt hf) .nil)
/-! ### a formula taken for an instance of a pattern -/
def mt : Fm → Fm → Tl → Tl × Bool
  | .lt n, f, l => match look l n with
    | some g => (l, decide (g = f))
    | none => (l ++ [(n, f)], true)
  | .ng p, .ng q, l => mt p q l
  | .im p q, .im p' q', l => match mt p p' l with
    | (l1, true) => mt q q' l1
    | (l1, false) => (l1, false)
  | _, _, l => (l, false)
def mts : List (Fm × Fm) → Tl → Tl × Bool
  | [], l => (l, true)
  | (p, f) :: r, l => match mt p f l with
    | (l1, true) => mts r l1
    | (l1, false) => (l1, false)
theorem mt_node {p f : Fm} (hp : p.isLt = false) (ht : p.tag = f.tag) (l : Tl) : mt p f l = mts (p.kids.zip f.kids) l ∧ p.kids.length = f.kids.length := by
  have s1 : ¬ (("not" : Str) = "letter") := by decide +kernel
  have s2 : ¬ (("not" : Str) = "if") := by decide +kernel
  have s3 : ¬ (("if" : Str) = "letter") := by decide +kernel
  have s4 : ¬ (("if" : Str) = "not") := by decide +kernel
  cases p with
  | lt n => cases hp
  | ng p =>
    cases f with
    | lt n => exact absurd ht s1
    | im a b => exact absurd ht s2
    | ng q =>
      refine ⟨?_, rfl⟩
      show mt p q l = match mt p q l with | (l1, true) => (l1, true) | (l1, false) => (l1, false)
      rcases mt p q l with ⟨l1, b⟩
      cases b <;> rfl
  | im p q =>
    cases f with
    | lt n => exact absurd ht s3
    | ng a => exact absurd ht s4
    | im p' q' =>
      refine ⟨?_, rfl⟩
      show (match mt p p' l with | (l1, true) => mt q q' l1 | (l1, false) => (l1, false)) = match mt p p' l with | (l1, true) => (match mt q q' l1 with | (l2, true) => (l2, true) | (l2, false) => (l2, false)) | (l1, false) => (l1, false)
      rcases mt p p' l with ⟨l1, b⟩
      cases b
      · rfl
      · show mt q q' l1 = match mt q q' l1 with | (l2, true) => (l2, true) | (l2, false) => (l2, false)
        rcases mt q q' l1 with ⟨l2, b⟩
        cases b <;> rfl
theorem mt_tag {p f : Fm} (hp : p.isLt = false) (ht : ¬ p.tag = f.tag) (l : Tl) : mt p f l = (l, false) := by
  cases p with
  | lt n => cases hp
  | ng p => cases f with
    | ng q => exact absurd rfl ht
    | lt _ => rfl
    | im _ _ => rfl
  | im p q => cases f with
    | im _ _ => exact absurd rfl ht
    | lt _ => rfl
    | ng _ => rfl
theorem look_none {l : Tl} {n : Str} : look l n = none ↔ n ∉ keysT l := by
  induction l with
  | nil => simp [look, keysT]
  | cons p l ih =>
    rw [look_cons]
    by_cases h : p.1 = n
    · simp [h, keysT]
    · rw [if_neg h, ih]
      have e : keysT (p :: l) = p.1 :: keysT l := rfl
      rw [e, List.mem_cons]
      exact ⟨fun z y => y.elim (fun q => h q.symm) z, fun z y => z (.inr y)⟩
/-- what the table holds afterwards -/
theorem mt_keys : ∀ (p f : Fm) (l l' : Tl) (b : Bool), mt p f l = (l', b) → (keysT l).Nodup →
    (keysT l').Nodup ∧ (∀ y ∈ keysT l', y ∈ keysT l ∨ y ∈ p.lets) ∧ (∀ y ∈ keysT l, y ∈ keysT l') ∧ (b = true → ∀ y ∈ p.lets, y ∈ keysT l') ∧ l'.length ≤ l.length + p.size ∧
    ∀ (B : Fm → Prop), (∀ g h, B (.im g h) → B g ∧ B h) → (∀ g, B (.ng g) → B g) → B f → (∀ x ∈ l, B x.2) → ∀ x ∈ l', B x.2
  | .lt n, f, l, l', b, h, hn => by
    unfold mt at h
    cases hl : look l n with
    | some g =>
      rw [hl] at h
      cases h
      have hm : n ∈ keysT l := Classical.byContradiction fun z => by rw [look_none.mpr z] at hl; cases hl
      exact ⟨hn, fun y hy => .inl hy, fun y hy => hy, fun _ y hy => by rw [List.mem_singleton.mp hy]; exact hm, Nat.le_add_right _ _, fun B _ _ _ hB => hB⟩
    | none =>
      rw [hl] at h
      cases h
      have hm := look_none.mp hl
      have e : keysT (l ++ [(n, f)]) = keysT l ++ [n] := List.map_append
      rw [e]
      refine ⟨?_, fun y hy => ?_, fun y hy => List.mem_append_left _ hy, fun _ y hy => List.mem_append_right _ hy, by rw [List.length_append]; exact Nat.le_refl _, fun B _ _ hf hB x hx => ?_⟩
      · rw [List.nodup_append]
        exact ⟨hn, by simp, fun a ha b hb e => by rw [List.mem_singleton.mp hb] at e; rw [e] at ha; exact hm ha⟩
      · rcases List.mem_append.mp hy with hy | hy
        · exact .inl hy
        · exact .inr hy
      · rcases List.mem_append.mp hx with hx | hx
        · exact hB x hx
        · rw [List.mem_singleton.mp hx]; exact hf
  | .ng p, .ng q, l, l', b, h, hn => by
    obtain ⟨a1, a2, a3, a4, a5, a6⟩ := mt_keys p q l l' b h hn
    exact ⟨a1, a2, a3, a4, by show _ ≤ l.length + (1 + p.size); omega, fun B h1 h2 hf hB => a6 B h1 h2 (h2 _ hf) hB⟩
  | .im p q, .im p' q', l, l', b, h, hn => by
    have es : (Fm.im p q).size = 1 + (p.size + q.size) := rfl
    have h : (match mt p p' l with | (l1, true) => mt q q' l1 | (l1, false) => (l1, false)) = (l', b) := h
    rcases e1 : mt p p' l with ⟨l1, b1⟩
    obtain ⟨a1, a2, a3, a4, a5, a6⟩ := mt_keys p p' l l1 b1 e1 hn
    rw [e1] at h
    cases b1 with
    | false =>
      cases h
      exact ⟨a1, fun y hy => (a2 y hy).imp id fun z => List.mem_append_left _ z, a3, fun z => Bool.noConfusion z, by omega, fun B h1 h2 hf hB => a6 B h1 h2 (h1 _ _ hf).1 hB⟩
    | true =>
      obtain ⟨b1, b2, b3, b4, b5, b6⟩ := mt_keys q q' l1 l' b h a1
      refine ⟨b1, fun y hy => ?_, fun y hy => b3 y (a3 y hy), fun z y hy => ?_, by omega, fun B h1 h2 hf hB => b6 B h1 h2 (h1 _ _ hf).2 (a6 B h1 h2 (h1 _ _ hf).1 hB)⟩
      · rcases b2 y hy with hy | hy
        · exact (a2 y hy).imp id fun z => List.mem_append_left _ z
        · exact .inr (List.mem_append_right _ hy)
      · rcases List.mem_append.mp hy with hy | hy
        · exact b3 y (a4 rfl y hy)
        · exact b4 z y hy
  | .ng p, .lt _, l, l', b, h, hn => by cases h; exact ⟨hn, fun y hy => .inl hy, fun y hy => hy, fun z => Bool.noConfusion z, Nat.le_add_right _ _, fun B _ _ _ hB => hB⟩
  | .ng p, .im _ _, l, l', b, h, hn => by cases h; exact ⟨hn, fun y hy => .inl hy, fun y hy => hy, fun z => Bool.noConfusion z, Nat.le_add_right _ _, fun B _ _ _ hB => hB⟩
  | .im p q, .lt _, l, l', b, h, hn => by cases h; exact ⟨hn, fun y hy => .inl hy, fun y hy => hy, fun z => Bool.noConfusion z, Nat.le_add_right _ _, fun B _ _ _ hB => hB⟩
  | .im p q, .ng _, l, l', b, h, hn => by cases h; exact ⟨hn, fun y hy => .inl hy, fun y hy => hy, fun z => Bool.noConfusion z, Nat.le_add_right _ _, fun B _ _ _ hB => hB⟩
end Cs

namespace Cs
open PySem PySem.Spec PyProof.Rows L2 PySem.W PySem.SeqAt
/-! ### sorted of a list of tuples, an empty one first -/
section
variable {prog : Program} {w : World} {A : Around} {E : Value → Shared → Prop} {s : Shared}
theorem call_tuple_lt {Q : Value → Shared → Prop} {l b : Addr} {items items2 : Array Value} {e r : Nat → Bool} (hl : s.heap.IsTuple l items) (hb : s.heap.IsTuple b items2)
    (he : ∀ j (h1 : j < items.size) (h2 : j < items2.size), EqAt A.in1 s items[j] items2[j] (e j)) (hr : ∀ j (h1 : j < items.size) (h2 : j < items2.size), e j = false → RcLt A.in1 s items[j] items2[j] (r j))
    (h : Q (.bool (firstLt e r (decide (items.size < items2.size)) (List.range (min items.size items2.size)))) s) : wpAny (model prog w) A (call (.builtin "tuple.__lt__") [.ref l, .ref b]) Q E s := by
  obtain ⟨⟨cls, dd, data, sl⟩, ho, hc, n, hd⟩ := id hl
  obtain ⟨⟨cls2, dd2, data2, sl2⟩, ho2, hc2, n2, hd2⟩ := id hb
  simp only at hc hd hc2 hd2
  subst hc hd hc2 hd2
  exact call_meets F.slot_tuple_lt ⟨_, ho, rfl⟩ F.entry_tuple_lt (F.args_tuple_lt_2 _ _) (tuple_ltAt l b items items2 n n2 dd dd2 sl sl2 e r) ⟨ho, ho2, he, hr, h⟩
theorem oneLt_tups {xs ys : List PyData} {a b : Value} {as bs : List Addr} {Q : Bool → Shared → Prop} (ra : Reads s.heap a (.tuple xs) as) (rb : Reads s.heap b (.tuple ys) bs) (hal : alikeAll xs ys = true)
    (hu : A.units + min (PyData.tuple xs).depth (PyData.tuple ys).depth < cLine) (hq : Q (dataLt (.tuple xs) (.tuple ys)) s) : wpAny (model prog w) A (oneLt' true a b) Q E s := by
  cases ra with
  | @tuple l o vs n _ as₁ h1 h2 h3 h4 =>
    cases rb with
    | @tuple l' o' vs' n' _ bs₁ k1 k2 k3 k4 =>
      have n1 : vs.size = xs.length := by simpa using ReadsAll.length _ _ _ h4
      have n2 : vs'.size = ys.length := by simpa using ReadsAll.length _ _ _ k4
      rw [dataLt_tuple, ← firstLt_toks xs ys hal, ← n1, ← n2] at hq
      rw [oneLt'_eq]
      simp only [if_true]
      refine wpAny_bind (wpAny_cRoomFor (room_here hu) ?_)
      refine wpAny_bind (wpAny_callSpecialIfBound?_slot (T := "tuple") ⟨_, h1, h2⟩ F.slot_tuple_lt (call_tuple_lt (e := pairEq xs ys) (r := fun j => dataLt (xs.getD j .none) (ys.getD j .none)) ⟨_, h1, h2, _, h3⟩ ⟨_, k1, k2, _, k3⟩ (fun j j1 j2 => ?_) (fun j j1 j2 hj => ?_) ?_))
      · have := eqAt_alikeAll xs ys A.in1 s vs.toList vs'.toList _ _ h4 k4 hal (room_in hu) j (by simpa using j1) (by simpa using j2)
        simpa using this
      · have := rcLt_alikeAll xs ys A.in1 s vs.toList vs'.toList _ _ h4 k4 hal (room_in hu) j (by simpa using j1) (by simpa using j2) hj
        simpa using this
      · exact wpAny_truthy_bool hq
/-- the first items of tuples -/
theorem firsts_tups {M : Model} : ∀ (vs : List Value) (ds : List PyData) {Q : List (Option Value) → Shared → Prop}, EachIs (fun v d => ∃ as, Reads s.heap v d as) vs ds → (∀ d ∈ ds, ∃ xs, d = .tuple xs) → (∀ fs, fs.length = vs.length → (ds.head? = some (.tuple []) → fs.head? = some none) → Q fs s) → wpAny M A (vs.mapM firstOfTuple') Q E s
  | [], [], _, _, _, h => by rw [List.mapM_nil]; exact wpAny_pure (h [] rfl fun e => nomatch e)
  | v :: vs, d :: ds, Q, e, ht, h => by
    cases e with
    | cons r e =>
    obtain ⟨as, r⟩ := r
    obtain ⟨xs, rfl⟩ := ht _ List.mem_cons_self
    cases r with
    | @tuple a o its n _ _ ho hc hd hr =>
      rw [List.mapM_cons]
      refine wpAny_bind ?_
      rw [kas_first_eq]
      refine wpAny_bind (Looks.here (show Looks M s.heap (typeOf (.ref a)) o.cls from (Looks.ld ho).andThen .now) ?_)
      rw [hc, if_neg (by first | decide | simp)]
      refine wpAny_bind (listItems_at ho hd (wpAny_pure ?_))
      refine wpAny_bind (firsts_tups vs ds (Q := fun bs s' => wpAny M A (pure (its[0]? :: bs)) Q E s') e (fun d hd => ht d (List.mem_cons_of_mem _ hd)) fun fs hl _ => wpAny_pure (h _ (by rw [List.length_cons, List.length_cons, hl]) fun he => ?_))
      have hx : xs = [] := by simpa using he
      subst hx
      have := ReadsAll.length _ _ _ hr
      have h0 : its.size = 0 := by simpa using this
      show some its[0]? = some none
      rw [Array.getElem?_eq_none (by omega)]
  | [], _ :: _, _, e, _, _ => by cases e
  | _ :: _, [], _, e, _, _ => by cases e
theorem kind_tups0 {M : Model} {vs : List Value} {ds : List PyData} {Q : SortKind → Shared → Prop} (h2 : 1 ≤ vs.length) (e : EachIs (fun v d => ∃ as, Reads s.heap v d as) vs ds) (ht : ∀ d ∈ ds, ∃ xs, d = .tuple xs) (h0 : ds.head? = some (.tuple [])) (h : Q oneType' s) :
    wpAny M A (keyKind' vs.toArray) Q E s := by
  rw [kat_kind_eq, List.mapM_toArray, map_eq_pure_bind]
  refine wpAny_bind (wpAny_bind (firsts_tups vs ds e ht fun fs hl hf => wpAny_pure ?_))
  have hf := hf h0
  obtain ⟨fr, rfl⟩ : ∃ fr, fs = none :: fr := by
    cases fs with
    | nil => cases hf
    | cons x fr => cases hf; exact ⟨fr, rfl⟩
  rw [if_neg (by simp), if_neg (by simp)]
  rw [oneTypeOnly'_eq, List.mapM_toArray, map_eq_pure_bind]
  refine wpAny_bind (wpAny_bind (wpAny_bind (kas_mapM (r := Value.type "tuple") _ (fun v hv Q' hq => ?_) (wpAny_pure ?_))))
  · obtain ⟨d, hd, as, r⟩ := e.left v hv
    obtain ⟨xs, rfl⟩ := ht d hd
    exact (looks_reads r).here hq
  · obtain ⟨v1, vr, rfl⟩ : ∃ v1 vr, vs = v1 :: vr := by
      cases vs with
      | nil => simp at h2
      | cons a b => exact ⟨a, b, rfl⟩
    have hall : ((List.map (fun _ => Value.type "tuple") (v1 :: vr)).toArray.all fun x => x == Value.type "tuple") = true := by
      simp only [List.all_toArray, List.all_map, List.all_eq_true]
      intro _ _
      exact beq_self_eq_true _
    have h0 : (List.map (fun _ => Value.type "tuple") (v1 :: vr)).toArray[0]? = some (Value.type "tuple") := by simp
    rw [h0]
    simp only [hall, if_true]
    exact wpAny_pure (wpAny_pure h)
theorem sortsAt_tups0 {vs : List Value} {ds : List PyData} (e : EachIs (fun v d => ∃ as, Reads s.heap v d as) vs ds) (hal : AllAlike ds) (ht : ∀ d ∈ ds, ∃ xs, d = .tuple xs) (h0 : ds.head? = some (.tuple [])) (hu : ∀ d, d ∈ ds → A.units + d.depth < cLine) : SortsAt prog w A s (dataKind s.heap ds) vs := by
  refine ⟨fun v hv => ?_, oneType', ?_, fun h2 E Q hq => kind_tups0 (by omega) e ht h0 hq⟩
  · obtain ⟨d, hd, as, r⟩ := e.left v hv
    exact ⟨_, dataKind_some hal hd r⟩
  · intro E x y a b Q ha hb hq
    obtain ⟨d, as, hd, ra, rfl⟩ := dataKind_inv ha
    obtain ⟨d', as', hd', rb, rfl⟩ := dataKind_inv hb
    rw [keyLt'_oneType]
    obtain ⟨xs, rfl⟩ := ht d hd
    obtain ⟨ys, rfl⟩ := ht d' hd'
    exact oneLt_tups ra rb (by simpa [alike] using hal _ hd _ hd') (Nat.lt_of_le_of_lt (Nat.add_le_add_left (Nat.min_le_left _ _) _) (hu _ hd)) hq
theorem sorted_tups0 {β : Type} {vs : List Value} {bs : List β} {enc : β → PyData} {R : Value → β → Prop} {l : Addr} {Q : Value → Shared → Prop} (hl : s.heap.IsList l vs.toArray) (e : EachIs R vs bs) (er : EachIs (fun v b => ∃ as, Reads s.heap v (enc b) as) vs bs) (hal : AllAlike (bs.map enc)) (ht : ∀ b ∈ bs, ∃ xs, enc b = .tuple xs) (h0 : (bs.map enc).head? = some (.tuple [])) (hL : bs.length ≤ sizeLine)
    (hu : ∀ b, b ∈ bs → A.units + 2 + (enc b).depth < cLine) (h : ∀ out, out.length = bs.length → EachIs R out (bs.mergeSort (dataLe false enc)) → Q (.ref (s.heap.objs.size + 1)) { s with heap := sortedAll s.heap vs (List.toArray out) }) :
    wpAny (model prog w) A (call (.builtin "sorted") [.ref l]) Q E s := by
  have er' : EachIs (fun v b => ∃ as, Reads (sortingHeap (copyHeap s.heap vs) (s.heap.objs.size + 1) vs) v (enc b) as) vs bs := er.mono fun _ _ ⟨as, r⟩ => ⟨as, PyProof.Rows.Reads.keeps (fun _ _ => sorting_copy_old) r⟩
  exact sorted_vals hl (sortsAt_tups0 (s := { s with heap := sortingHeap (copyHeap s.heap vs) (s.heap.objs.size + 1) vs }) (each_map (R := fun v d => ∃ as, Reads (sortingHeap (copyHeap s.heap vs) (s.heap.objs.size + 1) vs) v d as) enc er') hal (fun d hd => by
      obtain ⟨b, hb, rfl⟩ := List.mem_map.mp hd; exact ht b hb) h0 (bound_map hu)) (by rw [e.length]; exact hL)
    (h _ (by rw [sortVals_length false rfl]; exact e.length) (sortVals_data false e er' hal))
end
/-- a row of letters -/
def encT (b : List Str) : PyData := .tuple (b.map PyData.str)
theorem alike_strs : ∀ xs ys : List Str, alikeAll (xs.map .str) (ys.map .str) = true
  | [], _ => by simp [alikeAll]
  | _ :: _, [] => by simp [alikeAll]
  | x :: xs, y :: ys => by
    show alikeAll (.str x :: xs.map .str) (.str y :: ys.map .str) = true
    rw [alikeAll, alike_strs xs ys]
    simp [alike]
theorem encT_depth (b : List Str) : (encT b).depth ≤ 2 := by
  have : PyData.depthAll (b.map PyData.str) ≤ 1 := by
    induction b with
    | nil => simp [PyData.depthAll]
    | cons n ns ih => simp only [List.map_cons, PyData.depthAll, PyData.depth]; omega
  unfold encT
  simp only [PyData.depth]; omega
theorem each_dts {X : Cx} {pins : List (Addr × Obj)} {σ : L2.St} {H : Hp} {s : Shared} (I : Inv X pins σ H s) : ∀ {xs : List V} {us : List Value} {ss : List (List Str)}, Vals xs us → DtAll X.K H xs (ss.map encT) →
    EachIs (fun u b => ∃ x, RelV x u ∧ Dt X.K H x (encT b)) us ss ∧ EachIs (fun v b => ∃ as, Reads s.heap v (encT b) as) us ss
  | _, _, [], .nil, .nil => ⟨.nil, .nil⟩
  | _, _, b :: ss, .cons r rr, .cons h hh => by
    obtain ⟨e1, e2⟩ := each_dts I rr hh
    exact ⟨.cons ⟨_, r, h⟩ e1, .cons (Dp.reads I _ _ _ (Dt.dp _ _ h) r) e2⟩
theorem dts_each {K : PySem.W.Frag} {H : Hp} : ∀ {us : List Value} {ss : List (List Str)}, EachIs (fun u b => ∃ x, RelV x u ∧ Dt K H x (encT b)) us ss → ∃ xs, Vals xs us ∧ DtAll K H xs (ss.map encT)
  | _, _, .nil => ⟨[], .nil, .nil⟩
  | _, _, .cons ⟨x, r, h⟩ t => by
    obtain ⟨xs, a, b⟩ := dts_each t
    exact ⟨x :: xs, .cons r a, .cons h b⟩
/-- rows in order -/
noncomputable def rowSort (ss : List (List Str)) : List (List Str) := ss.mergeSort (dataLe false encT)
theorem rowSort_mem {ss : List (List Str)} {b : List Str} : b ∈ rowSort ss ↔ b ∈ ss := (List.mergeSort_perm ss _).mem_iff
theorem rowSort_len (ss : List (List Str)) : (rowSort ss).length = ss.length := (List.mergeSort_perm ss _).length_eq
/-- sorted(rows), the empty row first -/
theorem cr_sortedRows {X : Cx} (hu : X.A.units + 64 < cLine) : CallR X (.builtin "sorted") (fun vs H Q => ∃ (a : Addr) (xs : List V) (ss : List (List Str)), vs = [V.ref a] ∧ SqL X.K H a xs ∧ DtAll X.K H xs (ss.map encT) ∧ ss.head? = some [] ∧
    ∀ (ys : List V) (p : Addr), DtAll X.K H ys ((rowSort ss).map encT) → H p = none → Q (.ref p) (upd H p (.lst ys))) := by
  intro pins s σ H vs us Q I r h
  obtain ⟨a, xs, ss, rfl, hs, hd, h0, q⟩ := h
  obtain ⟨its, rv, hl, hz⟩ := I.list hs
  rw [Vals.ref1 r]
  obtain ⟨e1, e2⟩ := each_dts I rv hd
  have hlen : its.length = ss.length := e1.length
  refine sorted_tups0 (vs := its) hl.isList e1 e2 (AllAlike.of fun b b' => by simpa [encT, alike] using alike_strs b b') (fun b _ => ⟨_, rfl⟩) ?_ (by rw [← hlen, ← rv.length]; exact hz) (fun b _ => by have := encT_depth b; omega) fun out h1 h2 => ?_
  · cases ss with
    | nil => cases h0
    | cons b ss => cases h0; rfl
  obtain ⟨ys, y1, y2⟩ := dts_each h2
  obtain ⟨ep, he'⟩ := PyProof.Rows.sortedAll_at s.heap its out.toArray
  have hly : ys.length ≤ sizeLine := by rw [y1.length, h1, ← hlen, ← rv.length]; exact hz
  exact ⟨.ref _, upd H (s.heap.objs.size + 1) (.lst ys), I.laid (t' := s.toks) (fun _ _ => PyProof.Rows.sortedAll_old) (Nat.le_succ _) ⟨hly, out, ep, y1, he'⟩, rfl, q ys _ y2 (I.hok.fresh (Nat.le_succ _))⟩
end Cs

namespace Cs
open PySem PySem.Spec PyProof.Rows L2 PySem.Froz
/-! ### set(tuple of texts), tuples put together whatever they are -/
section
variable {P : Program} {w : World} {A : Around} {E : Value → Shared → Prop} {s : Shared}
theorem set_of_strsT {l : Addr} {items : Array Value} (ks : List Str) {Q : Value → Shared → Prop} (hh : A.handled = none) (hl : s.heap.IsTuple l items) (hit : StrsAre items.toList ks) (room : ks.length + 1 < scanBound)
    (h : ∀ (h' : Heap) (tk : Nat) c, SetT P w h' s.heap.objs.size c → c.length ≤ ks.length → (∀ y, y ∈ c ↔ y ∈ ks) → (∀ b o, s.heap.get? b = some o → h'.get? b = some o) → Q (.ref s.heap.objs.size) { s with heap := h', toks := tk }) :
    wpAny (model P w) A (call (.type "set") [.ref l]) Q E s := by
  have many : items.size = ks.length := by rw [← Array.length_toList]; exact hit.length
  obtain ⟨c, tl, hmro⟩ := F.called_set.mro
  have hmade := F.called_set.made
  have hsub := F.called_set.sub
  refine wpAny_call (codeAny_of_tree ?_)
  show wpAny _ _ (callAny (.type "set") _) _ _ _
  refine wpAny_pure ⟨Code.quiet_builtin _ (by decide +kernel), codeAny_builtin F.entry_type_call ?_⟩
  rw [Around.under_plain (weight_type_call_type "set" [.ref l] []) rfl]
  have h1 := F.called_set.notType
  have h2 := F.called_set.canCreate
  have hct := F.typeCall_set_1 (.ref l)
  repeat (any_goals (first | assumption | wp_step))
  refine codeAny_mono (code_set_led1 (.ref l) (E := E) (Q₁ := fun v t => v = .ref s.heap.objs.size ∧ t = { s with heap := s.heap.push (nuSet w) }) ⟨rfl, rfl⟩) fun r t hr => ?_
  cases r with
  | error e => exact hr
  | ok fl =>
    cases fl with
    | ret v =>
      obtain ⟨rfl, rfl⟩ := hr
      have new : (s.heap.push (nuSet w)).get? s.heap.objs.size = some (nuSet w) := Heap.get?_push_size _ rfl
      have ty : Shared.TypeIs { s with heap := s.heap.push (nuSet w) } (.ref s.heap.objs.size) "set" := ⟨_, new, rfl⟩
      have hli := F.called_set.init.lookup
      have hbi := F.called_set.init.bind (.ref s.heap.objs.size)
      repeat (any_goals (first | assumption | wp_step))
      refine codeAny_mono (codeAny_call_builtin (R := wants (fun r s₂ => r = .none ∧ ∃ h' tk c, s₂ = { s with heap := h', toks := tk } ∧ SetT P w h' s.heap.objs.size c ∧ c.length ≤ ks.length ∧ (∀ y, y ∈ c ↔ y ∈ ks) ∧
          (∀ b o, s.heap.get? b = some o → h'.get? b = some o)) E) F.called_set.init.plain F.entry_set_init (check_set_init_1 ty ?_)) fun r₂ s₂ hr₂ => ?_
      · obtain ⟨ol, hol, hcl, nl, hdl⟩ := hl
        obtain ⟨ocls, odict, odata, oslots⟩ := ol
        simp only at hcl hdl
        subst hcl; subst hdl
        have sz : (s.heap.push (nuSet w)).objs.size = s.heap.objs.size + 1 := Heap.size_push ..
        have hol' : (s.heap.push (nuSet w)).get? l = some { cls := .type "tuple", dict := odict, data := .seq items nl, slots := oslots } := Heap.get?_push_of_some _ hol
        have hsls := F.sub_tuple_set
        have hslf := F.sub_tuple_frozenset
        have hne : (Value.type "tuple" == Value.type "dict") = false := by decide
        have hl1 : (s.heap.push (nuSet w)).IsTuple l items := ⟨_, hol', rfl, nl, rfl⟩
        unfold Builtin.«set.__init__» noKeywords Builtin.Frozenset.updateFrom
        generalize hPI : pyIter = PI
        wp_walk
        subst hPI
        refine wpAny_pyIter_tuple hl1 (wpAny_bind (wpAny_runValue ?_))
        have lt : l < s.heap.objs.size := Heap.lt_size hol
        have hh3 : A.in1.in1.in1.handled = none := by simp [hh]
        have neI : l ≠ (s.heap.push (nuSet w)).objs.size := by rw [sz]; exact Nat.ne_of_lt (Nat.lt_succ_of_lt lt)
        have apart : s.heap.objs.size ∉ [(s.heap.push (nuSet w)).objs.size, l] := by
          rw [sz]
          simp only [List.mem_cons, List.not_mem_nil, or_false, not_or]
          exact ⟨Nat.ne_of_lt (Nat.lt_succ_self _), Nat.ne_of_gt lt⟩
        refine upd_strs ((Walks.tuple hh3 _ l neI items).toS) s.heap.objs.size apart ks many room (fun i v hv => strs_at hit i v (by rw [Array.getElem?_toList]; exact hv)) (items.size - 0) 0 _ (by omega) (Nat.zero_le _)
          ⟨⟨_, Heap.get?_push_size _ rfl, rfl, rfl⟩, (hl1.push _)⟩ ⟨[], Nat.zero_le _, fun y => by simp, setT_fresh (Heap.get?_push_of_some _ new)⟩ fun s' c' mv d1 d2 d3 => ?_
        obtain ⟨h', g2, dr, tk', os'⟩ := s'
        obtain rfl : g2 = s.gens := mv.gens
        obtain rfl : dr = s.drawn := mv.drawn
        obtain rfl : os' = s.os := mv.os
        show wpAny _ _ _ _ _ _
        refine wpAny_pure ?_
        show wpAny _ _ (ret Value.none) _ _ _
        refine wpAny_pure ⟨rfl, h', tk', c', rfl, d3, by omega, d2, fun b o e => ?_⟩
        have hb0 : b < s.heap.objs.size := Heap.lt_size e
        exact mv.heap b o (by rw [sz]; simp only [List.mem_cons, List.not_mem_nil, or_false, not_or]; exact ⟨Nat.ne_of_lt hb0, Nat.ne_of_lt (Nat.lt_succ_of_lt hb0)⟩) (Heap.get?_push_of_some _ (Heap.get?_push_of_some _ e))
      · cases r₂ with
        | error e => exact hr₂
        | ok fl₂ =>
          cases fl₂ with
          | ret r =>
            obtain ⟨rfl, h', tk, c', rfl, d1, d2, d3, d4⟩ := hr₂
            repeat (any_goals (first | assumption | wp_step))
            exact h _ _ _ d1 d2 d3 d4
          | _ => exact hr₂.elim
    | _ => exact hr.elim
end
section
variable {X : Cx}
def rSetOfT (K : PySem.W.Frag) (P : Program) (w : World) : List V → Hp → VK → Prop := fun xs H Q => ∃ (l : Addr) (ks : List Str), xs = [V.ref l] ∧ SqT K H l (ks.map V.str) ∧ ks.length + 1 < scanBound ∧
  ∀ a c, H a = none → c.length ≤ ks.length → (∀ y, y ∈ c ↔ y ∈ ks) → Q (.ref a) (upd H a (SetTO P w a c))
theorem cr_setOfT (hc : X.calm = true) : CallR X (.type "set") (rSetOfT X.K X.prog X.w) := by
  intro pins s σ H xs us Q I r h
  obtain ⟨l, ks, rfl, hl, hb, q⟩ := h
  rw [Vals.ref1 r]
  obtain ⟨its, rv, pl, hz⟩ := I.tuple hl
  refine set_of_strsT (P := X.prog) (w := X.w) ks (I.ok.hd hc) pl (by simpa using strs_vals rv) hb fun h' tk c R d1 d2 k => ?_
  exact ⟨.ref s.heap.objs.size, upd H s.heap.objs.size (SetTO X.prog X.w s.heap.objs.size c), I.laid (t' := tk) k (Nat.le_refl _) (setTO_new R), rfl, q _ c (I.hok.fresh (Nat.le_refl _)) d1 d2⟩
end
end Cs
namespace Cs
open PySem PySem.Spec PyProof.Rows L2
theorem op_catAK {X : Cx} {K : PySem.W.Frag} (hK : X.K = K) : OpR X (binaryOp .Add) (rCatA K) := by
  subst hK
  exact op_catA
/-! ### truth under rows: plain law -/
def Fm.ev (row : List Str) : Fm → Bool
  | .lt n => decide (n ∈ row)
  | .ng p => !p.ev row
  | .im p q => q.ev row || !p.ev row
theorem inV_strs (n : Str) : ∀ row : List Str, inV (.str n) (row.map V.str) = decide (n ∈ row)
  | [] => rfl
  | m :: row => by
    have ih := inV_strs n row
    unfold inV at ih ⊢
    rw [List.map_cons, List.any_cons, ih]
    by_cases h : m = n
    · subst h; simp [eqV]
    · have : ¬ n = m := fun e => h e.symm
      simp [eqV, h, this]
theorem flat_strs (row : List Str) : (row.map V.str).all flatV = true := by
  rw [List.all_map]
  exact List.all_eq_true.mpr fun x _ => rfl
def rowsU (names : List Str) : List (List Str) := names.foldl (fun r n => r ++ r.map (· ++ [n])) [[]]
theorem rowsU_succ {names : List Str} {j : Nat} {n : Str} (h : names[j]? = some n) : rowsU (names.take (j + 1)) = rowsU (names.take j) ++ (rowsU (names.take j)).map (· ++ [n]) := by
  unfold rowsU
  rw [List.take_add_one, h, List.foldl_append]
  rfl
theorem rowsU_head : ∀ (l : List Str) (r : List (List Str)), r.head? = some [] → (l.foldl (fun r n => r ++ r.map (· ++ [n])) r).head? = some []
  | [], r, h => h
  | n :: l, r, h => rowsU_head l _ (by rw [List.head?_append, h]; rfl)
theorem rowsU_len : ∀ (l : List Str) (r : List (List Str)), (l.foldl (fun r n => r ++ r.map (· ++ [n])) r).length = r.length * 2 ^ l.length
  | [], r => by simp
  | n :: l, r => by
    rw [List.foldl_cons, rowsU_len l, List.length_append, List.length_map, List.length_cons, Nat.pow_succ, ← Nat.two_mul, Nat.mul_comm 2, Nat.mul_assoc, Nat.mul_comm 2]
theorem rowsU_mem : ∀ (l : List Str) (A : List Str) (r : List (List Str)), (∀ x ∈ l, x ∈ A) → (∀ b ∈ r, ∀ x ∈ b, x ∈ A) → ∀ b ∈ l.foldl (fun r n => r ++ r.map (· ++ [n])) r, ∀ x ∈ b, x ∈ A
  | [], A, r, _, h => h
  | n :: l, A, r, hl, h => rowsU_mem l A _ (fun x hx => hl x (List.mem_cons_of_mem _ hx)) fun b hb => by
    rcases List.mem_append.mp hb with hb | hb
    · exact h b hb
    · obtain ⟨c, hc, rfl⟩ := List.mem_map.mp hb
      intro x hx
      rcases List.mem_append.mp hx with hx | hx
      · exact h c hc x hx
      · rw [List.mem_singleton.mp hx]; exact hl n List.mem_cons_self
theorem dts_strs {K : PySem.W.Frag} {H : Hp} : ∀ {b : List Str} {xs : List V}, DtAll K H xs (b.map PyData.str) → xs = b.map V.str
  | [], _, .nil => rfl
  | n :: b, _, .cons h hh => by cases h; rw [dts_strs hh]; rfl
theorem dt_row {K : PySem.W.Frag} {H : Hp} {v : V} {b : List Str} (h : Dt K H v (encT b)) : ∃ a, v = .ref a ∧ SqT K H a (b.map V.str) := by
  obtain ⟨a, xs, rfl, h1, h2⟩ := h.tupI
  rw [dts_strs h2] at h1
  exact ⟨a, rfl, h1⟩
theorem row_dt {K : PySem.W.Frag} {H : Hp} {a : Addr} {b : List Str} (h : SqT K H a (b.map V.str)) : Dt K H (.ref a) (encT b) := by
  refine .tup h ?_
  clear h
  induction b with
  | nil => exact .nil
  | cons n ns ih => exact .cons (.str n) ih
theorem ev_more {f : Fm} {row : List Str} {n : Str} (h : n ∉ f.lets) : f.ev (row ++ [n]) = f.ev row := by
  induction f with
  | lt m =>
    have : ¬ m = n := fun e => h (by rw [e]; exact List.mem_singleton_self _)
    simp [Fm.ev, this]
  | ng p ih => show (!p.ev _) = !p.ev _; rw [ih h]
  | im p q ih1 ih2 =>
    show (q.ev _ || !p.ev _) = (q.ev _ || !p.ev _)
    rw [ih1 fun z => h (List.mem_append_left _ z), ih2 fun z => h (List.mem_append_right _ z)]
/-- a row, or None -/
def optE : Option (List Str) → PyData
  | none => .none
  | some b => encT b
theorem optE_depth (o : Option (List Str)) : (optE o).depth ≤ 2 := by
  cases o with
  | none => simp [optE, PyData.depth]
  | some b => exact encT_depth b
theorem optE_fine {o : Option (List Str)} (h : ∀ b, o = some b → b.length ≤ 1000) : fine (optE o) = true := by
  cases o with
  | none => simp [optE, fine]
  | some b =>
    have hb := h b rfl
    have : ∀ b : List Str, fine.fines (b.map PyData.str) = true := by
      intro b
      induction b with
      | nil => simp [fine.fines]
      | cons n ns ih => simp [fine.fines, fine, ih]
    have h2 : b.length ≤ 100000 := by omega
    simp [optE, encT, fine, this, h2]
theorem nodup_len : ∀ (l D : List Str), l.Nodup → (∀ x ∈ l, x ∈ D) → l.length ≤ D.length
  | [], _, _, _ => Nat.zero_le _
  | x :: l, D, hn, hs => by
    obtain ⟨h1, h2⟩ := List.nodup_cons.mp hn
    have hx : x ∈ D := hs x List.mem_cons_self
    have ih := nodup_len l (D.erase x) h2 fun y hy => by
      have hne : y ≠ x := fun e => h1 (e ▸ hy)
      exact (List.mem_erase_of_ne hne).2 (hs y (List.mem_cons_of_mem _ hy))
    have e := List.length_erase_of_mem hx
    have hp : 0 < D.length := List.length_pos_of_mem hx
    rw [List.length_cons]
    omega
theorem row_len {l : List Str} : ∀ (r : List (List Str)) (k : Nat), (∀ b ∈ r, b.length ≤ k) → ∀ b ∈ l.foldl (fun r n => r ++ r.map (· ++ [n])) r, b.length ≤ k + l.length := by
  induction l with
  | nil => exact fun r k h b hb => h b hb
  | cons n l ih =>
    intro r k h b hb
    have := ih (r ++ r.map (· ++ [n])) (k + 1) (fun c hc => by
      rcases List.mem_append.mp hc with hc | hc
      · have := h c hc; omega
      · obtain ⟨d, hd, rfl⟩ := List.mem_map.mp hc
        have := h d hd
        rw [List.length_append]; exact Nat.succ_le_succ this) b hb
    rw [List.length_cons]; omega
end Cs

namespace Cs
open PySem PySem.Spec PyProof.Rows L2
/-! ### proofs: plain law -/
def fa : Fm := .lt "a"
def fb : Fm := .lt "b"
def fc : Fm := .lt "c"
def fd : Fm := .lt "d"
/-- the six axioms -/
def axL : List (Int × Fm) := [(1, .im fa (.im fb fa)), (2, .im (.im fc (.im fb fa)) (.im (.im fc fb) (.im fc fa))), (3, .im (.im fd (.im fb fa)) (.im fb (.im fd fa))), (4, .im (.im fb fa) (.im (.ng fa) (.ng fb))), (5, .im (.ng (.ng fa)) fa), (6, .im fa (.ng (.ng fa)))]
def strL : List (Str × List Int) := [("positive", [1, 2, 3]), ("minimal", [1, 2, 3, 4, 6]), ("full", [1, 2, 3, 4, 5, 6])]
theorem axL_mem {k : Int} {f : Fm} (e : axL.lookup k = some f) : (k, f) ∈ axL := by
  have : ∀ (l : List (Int × Fm)), l.lookup k = some f → (k, f) ∈ l := by
    intro l
    induction l with
    | nil => exact fun h => nomatch h
    | cons x l ih =>
      intro h
      rw [List.lookup_cons] at h
      split at h
      · rename_i hk
        cases h
        have : k = x.1 := by simpa using hk
        rw [this]; exact List.mem_cons_self
      · exact List.mem_cons_of_mem _ (ih h)
  exact this _ e
theorem axL_ok : ∀ k f, axL.lookup k = some f → f.depth ≤ 4 ∧ f.size ≤ 13 ∧ f.Pl ∧ 1 ≤ k ∧ k ≤ 6 := by
  have s1 : PyData.strOk "a" = true := by decide +kernel
  have s2 : PyData.strOk "b" = true := by decide +kernel
  have s3 : PyData.strOk "c" = true := by decide +kernel
  have s4 : PyData.strOk "d" = true := by decide +kernel
  have sa : ∀ y ∈ (["a", "b", "c", "d"] : List Str), PyData.strOk y = true := by
    intro y hy
    simp only [List.mem_cons, List.not_mem_nil, or_false] at hy
    rcases hy with rfl | rfl | rfl | rfl <;> assumption
  have h0 : ∀ x ∈ axL, x.2.depth ≤ 4 ∧ x.2.size ≤ 13 ∧ (∀ y ∈ x.2.lets, y ∈ (["a", "b", "c", "d"] : List Str)) ∧ 1 ≤ x.1 ∧ x.1 ≤ 6 := by decide +kernel
  have h : ∀ x ∈ axL, x.2.depth ≤ 4 ∧ x.2.size ≤ 13 ∧ (∀ y ∈ x.2.lets, PyData.strOk y = true) ∧ 1 ≤ x.1 ∧ x.1 ≤ 6 := fun x hx => ⟨(h0 x hx).1, (h0 x hx).2.1, fun y hy => sa y ((h0 x hx).2.2.1 y hy), (h0 x hx).2.2.2⟩
  intro k f e
  exact h _ (axL_mem e)
theorem axL_some {k : Int} (h1 : 1 ≤ k) (h2 : k ≤ 6) : ∃ f, axL.lookup k = some f := by
  have : k = 1 ∨ k = 2 ∨ k = 3 ∨ k = 4 ∨ k = 5 ∨ k = 6 := by omega
  rcases this with rfl | rfl | rfl | rfl | rfl | rfl <;> exact ⟨_, rfl⟩

/-- why a line stands -/
inductive Wy where
  | ax (k : Int)
  | dt (i j : Int)
  | hy
  deriving DecidableEq
def Wy.d : Wy → PyData
  | .ax k => .tuple [.str "axiom", .int k]
  | .dt i j => .tuple [.str "detach", .int i, .int j]
  | .hy => .tuple [.str "hypothesis"]
abbrev Ln := Fm × Wy
def lnd (l : Ln) : PyData := .tuple [l.1.d, l.2.d]
/-- the reason for which line k is wrong -/
def flt (ls : List Ln) (k : Nat) : Option Str := match ls[k]? with
  | none => none
  | some (f, .ax n) => match axL.lookup n with
    | none => some "unknown axiom"
    | some p => if (mt p f []).2 = true then none else some "no instance"
  | some (f, .dt i j) => if 0 ≤ i ∧ i < (k : Int) ∧ 0 ≤ j ∧ j < (k : Int) then
      match ls[i.toNat]?, ls[j.toNat]? with
      | some (.im p q, _), some (g, _) => if p = g then (if q = f then none else some "other consequence") else some "other condition"
      | _, _ => some "no conditional"
    else some "line not before"
  | some (_, .hy) => none
def fltD (ls : List Ln) (k : Nat) (i j : Int) (f : Fm) : Option Str := if 0 ≤ i ∧ i < (k : Int) ∧ 0 ≤ j ∧ j < (k : Int) then
      match ls[i.toNat]?, ls[j.toNat]? with
      | some (.im p q, _), some (g, _) => if p = g then (if q = f then none else some "other consequence") else some "other condition"
      | _, _ => some "no conditional"
    else some "line not before"
theorem flt_dtE {ls : List Ln} {k : Nat} {i j : Int} {f : Fm} (h : ls[k]? = some (f, .dt i j)) : flt ls k = fltD ls k i j f := by
  unfold flt; rw [h]; rfl
def fltA (n : Int) (f : Fm) : Option Str := match axL.lookup n with
    | none => some "unknown axiom"
    | some p => if (mt p f []).2 = true then none else some "no instance"
theorem flt_axE {ls : List Ln} {k : Nat} {n : Int} {f : Fm} (h : ls[k]? = some (f, .ax n)) : flt ls k = fltA n f := by
  unfold flt; rw [h]; rfl
theorem flt_hyE {ls : List Ln} {k : Nat} {f : Fm} (h : ls[k]? = some (f, .hy)) : flt ls k = none := by
  unfold flt; rw [h]
/-- the first fault -/
def fstF (ls : List Ln) : Option (Nat × Str) := if ls = [] then some (0, "empty") else (List.range ls.length).findSome? fun k => (flt ls k).map fun r => (k, r)
theorem fst_none {ls : List Ln} (h0 : ls ≠ []) (h : ∀ k, k < ls.length → flt ls k = none) : fstF ls = none := by
  unfold fstF
  rw [if_neg h0, List.findSome?_eq_none_iff]
  intro k hk
  rw [h k (List.mem_range.mp hk)]; rfl
theorem fst_some {ls : List Ln} {k : Nat} {r : Str} (hk : k < ls.length) (h : ∀ i, i < k → flt ls i = none) (e : flt ls k = some r) : fstF ls = some (k, r) := by
  have h0 : ls ≠ [] := fun z => by rw [z] at hk; cases hk
  unfold fstF
  rw [if_neg h0]
  have e1 := List.take_append_drop k (List.range ls.length)
  have e2 : (List.range ls.length).take k = List.range k := by rw [List.take_range, Nat.min_eq_left (by omega)]
  rw [e2, List.drop_eq_getElem_cons (by rw [List.length_range]; exact hk), List.getElem_range] at e1
  rw [← e1, List.findSome?_append]
  have : (List.range k).findSome? (fun k => (flt ls k).map fun r => (k, r)) = none := by
    rw [List.findSome?_eq_none_iff]
    intro i hi
    rw [h i (List.mem_range.mp hi)]; rfl
  rw [this, List.findSome?_cons, e]
  rfl
theorem fst_of_none {ls : List Ln} (h : fstF ls = none) : ls ≠ [] ∧ ∀ k, k < ls.length → flt ls k = none := by
  unfold fstF at h
  split at h
  · cases h
  · rename_i h0
    rw [List.findSome?_eq_none_iff] at h
    refine ⟨h0, fun k hk => ?_⟩
    have := h k (List.mem_range.mpr hk)
    cases e : flt ls k with
    | none => rfl
    | some r => rw [e] at this; cases this
/-- a line more -/
theorem flt_app {ls : List Ln} {x : Ln} {k : Nat} (h : k < ls.length) : flt (ls ++ [x]) k = flt ls k := by
  unfold flt
  rw [List.getElem?_append_left h]
  cases e : ls[k]? with
  | none => rfl
  | some l =>
    obtain ⟨f, w⟩ := l
    cases w with
    | ax n => rfl
    | hy => rfl
    | dt i j =>
      dsimp only
      split
      · rename_i hc
        rw [List.getElem?_append_left (by omega), List.getElem?_append_left (by omega)]
      · rfl
/-- what the formulas of a proof are like -/
def GdF (f : Fm) : Prop := f.Pl ∧ f.depth ≤ 13 ∧ f.size ≤ 117
theorem GdF.l {p q : Fm} (h : GdF (.im p q)) : GdF p := by
  obtain ⟨a, b, c⟩ := h
  have e : (Fm.im p q).depth = max p.depth q.depth + 1 := rfl
  have e2 : (Fm.im p q).size = 1 + (p.size + q.size) := rfl
  exact ⟨a.l, by omega, by omega⟩
theorem GdF.r {p q : Fm} (h : GdF (.im p q)) : GdF q := by
  obtain ⟨a, b, c⟩ := h
  have e : (Fm.im p q).depth = max p.depth q.depth + 1 := rfl
  have e2 : (Fm.im p q).size = 1 + (p.size + q.size) := rfl
  exact ⟨a.r, by omega, by omega⟩
def GdP (ls : List Ln) : Prop := ∀ l ∈ ls, GdF l.1
theorem put_pl {t : Str → Option Fm} (h : ∀ m g, t m = some g → g.Pl) : ∀ f : Fm, f.Pl → (f.put t).Pl
  | .lt n, hf => by
    intro x hx
    have hx : x ∈ ((t n).getD (.lt n)).lets := hx
    cases e : t n with
    | none => rw [e] at hx; exact hf x hx
    | some g => rw [e] at hx; exact h n g e x hx
  | .ng p, hf => put_pl h p hf
  | .im p q, hf => fun x hx => (List.mem_append.mp hx).elim (put_pl h p hf.l x) (put_pl h q hf.r x)
theorem put_dep {t : Str → Option Fm} {k : Nat} (h : ∀ m g, t m = some g → g.depth ≤ k) (hk : 1 ≤ k) : ∀ f : Fm, (f.put t).depth ≤ f.depth + k
  | .lt n => by
    show ((t n).getD (.lt n)).depth ≤ 1 + k
    cases e : t n with
    | none => show 1 ≤ _; omega
    | some g => have := h n g e; show g.depth ≤ _; omega
  | .ng p => by have := put_dep h hk p; show (p.put t).depth + 1 ≤ p.depth + 1 + k; omega
  | .im p q => by
    have := put_dep h hk p; have := put_dep h hk q
    show max (p.put t).depth (q.put t).depth + 1 ≤ max p.depth q.depth + 1 + k
    omega
theorem put_sz {t : Str → Option Fm} (h : ∀ m g, t m = some g → g.size ≤ 9) : ∀ f : Fm, (f.put t).size ≤ 9 * f.size
  | .lt n => by
    show ((t n).getD (.lt n)).size ≤ 9
    cases e : t n with
    | none => show 1 ≤ 9; decide
    | some g => exact h n g e
  | .ng p => by have := put_sz h p; show 1 + (p.put t).size ≤ 9 * (1 + p.size); omega
  | .im p q => by
    have := put_sz h p; have := put_sz h q
    show 1 + ((p.put t).size + (q.put t).size) ≤ 9 * (1 + (p.size + q.size))
    omega
/-- a pattern and what is got by putting -/
theorem mt_put (t : Str → Option Fm) : ∀ (p : Fm) (l : Tl), (∀ x ∈ l, x.2 = (t x.1).getD (.lt x.1)) → ∃ l', mt p (p.put t) l = (l', true) ∧ ∀ x ∈ l', x.2 = (t x.1).getD (.lt x.1)
  | .lt n, l, h => by
    unfold mt
    cases e : look l n with
    | some g =>
      have hm : (n, g) ∈ l := by
        unfold look at e
        rw [Option.map_eq_some_iff] at e
        obtain ⟨p, h1, rfl⟩ := e
        have := List.find?_some h1
        have e : p.1 = n := by simpa using this
        rw [← e]
        exact List.mem_of_find?_eq_some h1
      have := h _ hm
      refine ⟨l, ?_, h⟩
      show (l, decide (g = (t n).getD (.lt n))) = _
      have hg : g = (t n).getD (.lt n) := this
      rw [decide_eq_true hg]
    | none =>
      refine ⟨_, rfl, fun x hx => ?_⟩
      rcases List.mem_append.mp hx with hx | hx
      · exact h x hx
      · rw [List.mem_singleton.mp hx]; rfl
  | .ng p, l, h => mt_put t p l h
  | .im p q, l, h => by
    obtain ⟨l1, e1, h1⟩ := mt_put t p l h
    obtain ⟨l2, e2, h2⟩ := mt_put t q l1 h1
    refine ⟨l2, ?_, h2⟩
    show (match mt p (p.put t) l with | (l1, true) => mt q (q.put t) l1 | (l1, false) => (l1, false)) = _
    rw [e1]
    exact e2
theorem flt_ax {ls : List Ln} {n : Int} {p : Fm} {t : Str → Option Fm} (h : axL.lookup n = some p) : flt (ls ++ [(p.put t, .ax n)]) ls.length = none := by
  obtain ⟨l', e, _⟩ := mt_put t p [] fun x hx => nomatch hx
  unfold flt
  rw [List.getElem?_append_right (Nat.le_refl _), Nat.sub_self]
  show (match axL.lookup n with | none => some _ | some p' => if (mt p' (p.put t) []).2 = true then none else some _) = none
  rw [h]
  show (if (mt p (p.put t) []).2 = true then none else some _) = none
  rw [e]; rfl
theorem flt_hy {ls : List Ln} {f : Fm} : flt (ls ++ [(f, .hy)]) ls.length = none := by
  unfold flt
  rw [List.getElem?_append_right (Nat.le_refl _), Nat.sub_self]; rfl
theorem flt_dt {ls : List Ln} {i j : Nat} {p q : Fm} {w1 w2 : Wy} (hi : ls[i]? = some (.im p q, w1)) (hj : ls[j]? = some (p, w2)) : flt (ls ++ [(q, .dt i j)]) ls.length = none := by
  have li := (List.getElem?_eq_some_iff.mp hi).1
  have lj := (List.getElem?_eq_some_iff.mp hj).1
  unfold flt
  rw [List.getElem?_append_right (Nat.le_refl _), Nat.sub_self]
  show (if 0 ≤ (i : Int) ∧ (i : Int) < (ls.length : Int) ∧ 0 ≤ (j : Int) ∧ (j : Int) < (ls.length : Int) then _ else _) = none
  rw [if_pos ⟨by omega, by omega, by omega, by omega⟩, Int.toNat_natCast, Int.toNat_natCast, List.getElem?_append_left li, List.getElem?_append_left lj, hi, hj]
  show (if p = p then _ else _) = none
  rw [if_pos rfl, if_pos rfl]
theorem flt_all {ls : List Ln} {x : Ln} (h : ∀ k, k < ls.length → flt ls k = none) (hx : flt (ls ++ [x]) ls.length = none) : ∀ k, k < (ls ++ [x]).length → flt (ls ++ [x]) k = none := fun k hk => by
  rw [List.length_append, List.length_singleton] at hk
  by_cases e : k < ls.length
  · rw [flt_app e]; exact h k e
  · rw [show k = ls.length by omega]; exact hx
/-! ### lines as they lie in the heap -/
theorem ln_dt {K : PySem.W.Frag} {H : Hp} {v : V} {l : Ln} (h : Dt K H v (lnd l)) : ∃ a x y, v = .ref a ∧ SqT K H a [x, y] ∧ FmV K H x l.1 ∧ Dt K H y l.2.d := by
  obtain ⟨a, xs, rfl, h1, h2⟩ := h.tupI
  cases h2 with
  | cons p1 h2 =>
  cases h2 with
  | cons p2 h2 =>
  cases h2
  exact ⟨a, _, _, rfl, h1, p1, p2⟩
theorem mk_ln {K : PySem.W.Frag} {H : Hp} {a : Addr} {x y : V} {f : Fm} {w : Wy} (h : SqT K H a [x, y]) (hf : FmV K H x f) (hw : Dt K H y w.d) : Dt K H (.ref a) (lnd (f, w)) := .tup h (.cons hf (.cons hw .nil))
inductive WyC (K : PySem.W.Frag) (H : Hp) : V → Wy → Prop
  | ax {a : Addr} {k : Int} : SqT K H a [.str "axiom", .int k] → WyC K H (.ref a) (.ax k)
  | dt {a : Addr} {i j : Int} : SqT K H a [.str "detach", .int i, .int j] → WyC K H (.ref a) (.dt i j)
  | hy {a : Addr} : SqT K H a [.str "hypothesis"] → WyC K H (.ref a) .hy
theorem wy_c {K : PySem.W.Frag} {H : Hp} {v : V} : ∀ {w : Wy}, Dt K H v w.d → WyC K H v w
  | .ax k, h => by
    obtain ⟨a, xs, rfl, h1, h2⟩ := Dt.tupI h
    cases h2 with
    | cons p1 h2 =>
    cases h2 with
    | cons p2 h2 =>
    cases h2; cases p1; cases p2
    exact .ax h1
  | .dt i j, h => by
    obtain ⟨a, xs, rfl, h1, h2⟩ := Dt.tupI h
    cases h2 with
    | cons p1 h2 =>
    cases h2 with
    | cons p2 h2 =>
    cases h2 with
    | cons p3 h2 =>
    cases h2; cases p1; cases p2; cases p3
    exact .dt h1
  | .hy, h => by
    obtain ⟨a, xs, rfl, h1, h2⟩ := Dt.tupI h
    cases h2 with
    | cons p1 h2 =>
    cases h2; cases p1
    exact .hy h1
theorem c_wy {K : PySem.W.Frag} {H : Hp} {v : V} {w : Wy} (h : WyC K H v w) : Dt K H v w.d := by
  cases h with
  | ax h => exact .tup h (.cons (.str _) (.cons (.int _) .nil))
  | dt h => exact .tup h (.cons (.str _) (.cons (.int _) (.cons (.int _) .nil)))
  | hy h => exact .tup h (.cons (.str _) .nil)
/-! ### the box, its list of digits named -/
structure BxD (D : Addr) (H : Hp) (b : Addr) : Prop where
  ex : ∃ (at_ : Int) (ds : List Int), H b = some (.lst [.ref D, .int at_]) ∧ 0 ≤ at_ ∧ H D = some (.lst (ds.map V.int)) ∧ ds.length ≤ 4000 ∧ (∀ d ∈ ds, 0 ≤ d ∧ d < 1000) ∧ D ≠ b
theorem Bx.named {H : Hp} {b : Addr} (B : Bx H b) : ∃ D, BxD D H b := by
  obtain ⟨dg, at_, ds, h⟩ := B.ex
  exact ⟨dg, at_, ds, h⟩
theorem BxD.gx {S : List Addr} {H H' : Hp} {b D : Addr} (x : Gx S H H') (h : ∀ a ∈ S, a ≠ b ∧ a ≠ D) (B : BxD D H b) : BxD D H' b := by
  obtain ⟨at_, ds, h1, h2, h3, h4, h5, h6⟩ := B.ex
  exact ⟨at_, ds, x.lst h1 fun m => (h b m).1 rfl, h2, x.lst h3 (fun m => (h D m).2 rfl), h4, h5, h6⟩
theorem BxD.gr {H H' : Hp} {b D : Addr} (x : Gr H H') (B : BxD D H b) : BxD D H' b := B.gx x fun a h => nomatch h
theorem BxD.ne {H : Hp} {b D p : Addr} (B : BxD D H b) (h : H p = none) : p ≠ b ∧ p ≠ D := by
  obtain ⟨at_, ds, h1, h2, h3, _⟩ := B.ex
  refine ⟨fun e => ?_, fun e => ?_⟩
  · rw [e, h1] at h; cases h
  · rw [e, h3] at h; cases h
end Cs

namespace Cs
open PySem PySem.Spec PyProof.Rows L2 PySem.Froz
/-! ### {elt for tg in iter if ..}: a kind of set by its first state O0 and what an add asks (Ad) -/
abbrev AdT := V → Addr → Hp → (Hp → Prop) → Prop
structure SKind (P : Program) (w : World) (O0 : Addr → HO) (Ad : AdT) : Prop where
  new : ∀ (H : Hp) (h : Heap), ObjOk P w H (h.push { cls := .type "set", dict := none, data := .set #[] 0 (.fresh 0 0 (!w.params.followText "set-order")) }) h.objs.size (O0 h.objs.size)
  add : ∀ (Y : Cx), Y.prog = P → Y.w = w → ∀ (pins : List (Addr × Obj)) (σ : L2.St) (H : Hp) (s : Shared) (E : Value → Shared → Prop) (D : Addr) (y : V) (z : Value) (Nx : Hp → Prop) (Q : Value → Shared → Prop), Inv Y pins σ H s → RelV y z → Ad y D H Nx →
    (∀ u s' H', Inv Y pins σ H' s' → Nx H' → Q u s') → wpAny (model Y.prog Y.w) Y.A (call (.builtin "set.add") [.ref D, z]) Q E s
section
variable {X : Cx}
def tScA (O0 : Addr → HO) (Ad : AdT) (wi : TI) (g : TG) (tt : L2.TT) (te : TE) (vs : List Nat) : TE := fun σ H Q => wi σ H fun J H1 => ∀ D, H1 D = none → ∃ W : Nat → Nat → Hp → Prop, (∃ m, W 0 m (upd H1 D (O0 D))) ∧ ∀ i m H, W i m H →
  (J.stop i H ∧ Q (.ref D) H) ∨ (J.go i H ∧ ∃ Nx : Hp → Prop, (∀ H', Nx H' → ∃ m', m' < m ∧ W (i + 1) m' H') ∧ ∀ x H', J.yld i H x H' → g x (wipe σ vs) H' fun σ2 H2 => wipe σ2 vs = wipe σ vs ∧ tt σ2 H2 fun b H3 =>
    if b = true then te σ2 H3 fun y H4 => Ad y D H4 Nx else Nx H3)
theorem scA_core {pins : List (Addr × Obj)} {s : Shared} {σ : L2.St} {H : Hp} {Q : VK} {elt tg iter : Expr} {ifs : List Expr} {scope : Scope} {own : List (PySem.Str × Nat)} {pos pos' : Pos} {wi : TI} {g : TG} {tt : L2.TT} {te : TE} {use : Option (Value → Sem Unit)} {Qf : Value → Shared → Prop} {O0 : Addr → HO} {Ad : AdT}
    (S : SKind X.prog X.w O0 Ad) (hc : X.calm = true) (hN : X.N.Nodup) (I : Inv X pins σ H s) (hi : PI X tg iter wi) (ok : BlkOk X.N X.env.scope scope own)
    (hg : ∀ (s : Shared) (H : Hp) (C : Addr) (cl : List (PySem.Str × Addr)) (fp : List Addr), PG (X.blk s H scope (compEnvC scope cl C X.env) fp) tg g)
    (ht : ∀ (s : Shared) (H : Hp) (C : Addr) (cl : List (PySem.Str × Addr)) (fp : List Addr), PTs (X.blk s H scope (compEnvC scope cl C X.env) fp) ifs tt)
    (he : ∀ (s : Shared) (H : Hp) (C : Addr) (cl : List (PySem.Str × Addr)) (fp : List Addr), PE (X.blk s H scope (compEnvC scope cl C X.env) fp) elt te) (hs : ∀ x, foldedSetIterable iter X.env x = pure x)
    (h : tScA O0 Ad wi g tt te (own.map (·.2)) σ H Q)
    (hRR : ∀ D C s' m H', Inv X pins σ H' s' → Q (.ref D) H' → s'.heap.Ns C m → FpOk X pins H' C → compPost (model X.prog X.w) X.A X.xe use Qf (.ref D) C (.ok .next) s') :
    wpAny (model X.prog X.w) X.A (comprehension (.SetComp elt [⟨tg, iter, ifs, 0⟩] scope pos) scope X.env pos' (newSet (.type "set")) false (eval iter X.env) use) Qf X.xe s := by
  have hfree : ∀ y ∈ scope.names, y.2 = .free → ∃ c, X.env.cells.lookup y.1 = some c := fun y hy e => by
    rcases ok.free y hy e with k | k
    · exact I.ok.has _ (.inl k)
    · exact I.ok.has _ (.inr k)
  refine wpAny_comprehension_free (use := use) rfl hs (closure_ok hfree) ok.kind (fun y hy e => by rw [ok.uniq y hy, e])
    (thn (hi.run pins s σ H _ I h) fun xv s1 hx => thn hx fun itv s2 h2 => ?_)
  obtain ⟨it, fp, tn, J, H2, e, I2, T, st2, f2, q⟩ := h2
  subst e
  refine PpSet.newSet_ok (newEnv_comp ?_)
  generalize hD : s2.heap.objs.size = D
  have hDn : H2 D = none := I2.hok.fresh (Nat.le_of_eq hD)
  obtain ⟨W, ⟨m0, w0⟩, turn⟩ := q D hDn
  generalize hs3 : ({ s2 with heap := s2.heap.push { cls := .type "set", dict := none, data := .set #[] 0 (.fresh 0 0 (!X.w.params.followText "set-order")) } } : Shared) = s3
  have I3 : Inv X pins σ (upd H2 D (O0 D)) s3 := by
    rw [← hs3]
    refine I2.laid (t' := s2.toks) (fun b o e => Heap.get?_push_of_some _ e) (Nat.le_of_eq hD) ?_
    rw [← hD]
    exact S.new _ _
  have h3 : s3.heap = s2.heap.push { cls := .type "set", dict := none, data := .set #[] 0 (.fresh 0 0 (!X.w.params.followText "set-order")) } := by rw [← hs3]
  have sz : ∀ b ∈ fp, b < s2.heap.objs.size := fun b hb => by
    obtain ⟨o, e, _⟩ := T.obj _ _ st2 b hb
    exact Heap.lt_size e
  have f3 : ∀ b ∈ fp, FpOk X pins (upd H2 D (O0 D)) b ∧ b < s3.heap.objs.size := fun b hb => by
    have hlt := sz b hb
    refine ⟨⟨?_, (f2 b hb).2⟩, by rw [h3, Heap.size_push]; exact Nat.lt_succ_of_lt hlt⟩
    rw [upd_ne (by rw [← hD]; exact Nat.ne_of_lt hlt)]
    exact (f2 b hb).1
  have st3 : tn 0 s3.heap := T.keep _ _ _ st2 fun b _ o e => by rw [h3]; exact Heap.get?_push_of_some _ e
  have I4 := block_start I3 ok hN f3
  have pg := hg s3 (upd H2 D (O0 D)) s3.heap.objs.size (cellsFrom (s3.heap.objs.size + 1) scope.names (cloFrom X.env.cells scope.names [])) fp
  have pt := ht s3 (upd H2 D (O0 D)) s3.heap.objs.size (cellsFrom (s3.heap.objs.size + 1) scope.names (cloFrom X.env.cells scope.names [])) fp
  have pe := he s3 (upd H2 D (O0 D)) s3.heap.objs.size (cellsFrom (s3.heap.objs.size + 1) scope.names (cloFrom X.env.cells scope.names [])) fp
  show codeAny _ _ (.compStart (.SetComp elt [⟨tg, iter, ifs, 0⟩] scope pos) 0 (.ref it) (.ref D) (compEnvC scope (cellsFrom (s3.heap.objs.size + 1) scope.names (cloFrom X.env.cells scope.names [])) s3.heap.objs.size X.env)) (compPost (model X.prog X.w) X.A X.xe use Qf (.ref D) s3.heap.objs.size) { s3 with heap := pushCells (s3.heap.push { cls := .type "dict", data := .dict #[] }) scope.names }
  have nfp : ∀ b ∈ fp, (upd H2 D (O0 D)) b = none := fun b hb => (f3 b hb).1.1
  generalize hce : compEnvC scope (cellsFrom (s3.heap.objs.size + 1) scope.names (cloFrom X.env.cells scope.names [])) s3.heap.objs.size X.env = ce at I4 pg pt pe ⊢
  have cL : ce.locals = s3.heap.objs.size := by subst hce; rfl
  generalize hH3 : upd H2 D (O0 D) = H3 at I3 I4 pg pt pe w0 nfp f3
  generalize hs4 : ({ s3 with heap := pushCells (s3.heap.push { cls := .type "dict", data := .dict #[] }) scope.names } : Shared) = s4 at I4 ⊢
  have st4 : tn 0 s4.heap := T.keep _ _ _ st3 fun b _ o e => by rw [← hs4]; exact pushCells_keeps _ _ _ _ (Heap.get?_push_of_some _ e)
  have stat : ∀ {σ' : L2.St} {H' : Hp} {s' : Shared}, Inv (X.blk s3 H3 scope ce fp) [] σ' H' s' → (∀ b ∈ fp, H' b = none) → ∀ b ∈ fp, FpOk (X.blk s3 H3 scope ce fp) [] H' b := fun {σ' H' s'} I' hn b hb =>
    ⟨hn b hb, (I'.ok.exf b hb).1, I'.ok.exfs b hb, .inl hb, fun x c e => (I'.ok.exf b hb).2 x c e, fun p hp => absurd (show p ∈ ([] : List (Addr × Obj)) ++ [] from hp) (by simp)⟩
  have loop : codeAny (model X.prog X.w) X.A (.compLoop (.SetComp elt [⟨tg, iter, ifs, 0⟩] scope pos) 0 (.ref it) (.ref D) ce) (compPost (model X.prog X.w) X.A X.xe use Qf (.ref D) s3.heap.objs.size) s4 := by
    refine PpSet.compLoopS_any (fun n s' => ∃ i H', Inv (X.blk s3 H3 scope ce fp) [] (wipe σ (own.map (·.2))) H' s' ∧ tn i s'.heap ∧ (∀ b ∈ fp, H' b = none) ∧ W i n H') ?_ m0 ⟨0, H3, I4, st4, nfp, w0⟩
    rintro n s5 ⟨i, H5, I5, st5, n5, w5⟩
    rcases turn i n H5 w5 with ⟨stop, qq⟩ | ⟨go, Nx, hNx, step⟩
    · refine thnF (T.done (X.blk s3 H3 scope ce fp) rfl rfl rfl hc i [] s5 _ H5 (fun _ _ => False) I5 (stat I5 n5) st5 stop) fun r s6 ⟨hr, I6⟩ => ?_
      subst hr
      have I7 : Inv X pins σ H5 s6 := I3.call' (ch := fp) I6.os I6.base I6.hok I6.bare fun b hb => ⟨(f3 b hb).1.2.2.2.1, (f3 b hb).1.2.1, (f3 b hb).1.2.2.2.2.1, (f3 b hb).1.2.2.2.2.2⟩
      have nC : H5 s3.heap.objs.size = none := by
        have z : H5 ce.locals = none := I6.free
        rw [cL] at z
        exact z
      obtain ⟨m, hn, _⟩ := I6.loc
      have hn : s6.heap.Ns ce.locals m := hn
      rw [cL] at hn
      exact hRR D s3.heap.objs.size s6 m H5 I7 qq hn (I3.fpOk (Nat.le_refl _) nC)
    · refine thnF (T.item (X.blk s3 H3 scope ce fp) rfl rfl rfl hc i [] s5 _ H5 (fun _ _ => False) I5 (stat I5 n5) st5 go) fun r s6 ⟨u, hr, h6⟩ => ?_
      subst hr
      refine thnF h6 fun _ s7 ⟨x, H7, I7, r7, y7, st7, n7⟩ => ?_
      have I7' := I7.pinned (stat I7 n7) (T.obj _ _ st7)
      refine thnF (pg.run _ s7 _ H7 x u _ I7' r7 (step x H7 y7)) fun _ s8 ⟨σ8, H8, I8, hw8, q8⟩ => ?_
      refine thnF (pt.run _ s8 σ8 H8 _ I8 q8) fun b s9 ⟨H9, I9, q9⟩ => ?_
      have fin : ∀ {s' : Shared} {H' : Hp}, Inv (X.blk s3 H3 scope ce fp) ([] ++ pinsAt fp s7.heap) σ8 H' s' → Nx H' → ∃ m, m < n ∧ ∃ i H', Inv (X.blk s3 H3 scope ce fp) [] (wipe σ (own.map (·.2))) H' s' ∧ tn i s'.heap ∧ (∀ b ∈ fp, H' b = none) ∧ W i m H' := fun {s' H'} I' nx => by
        obtain ⟨m', hm, w'⟩ := hNx H' nx
        have pin' : ∀ b ∈ fp, ∀ o, s7.heap.get? b = some o → s'.heap.get? b = some o ∧ H' b = none := fun b hb o e =>
          let z := I'.pin (b, o) (List.mem_append_right _ (List.mem_append_right _ (mem_pinsAt hb e)))
          ⟨z.1, z.2.1⟩
        have hl : (wipe σ (own.map (·.2))).length = σ8.length := by rw [← hw8, wipe_length]
        refine ⟨m', hm, i + 1, H', (I'.unpinned (pins := [])).weak hl (fun j v e => ?_), T.keep _ _ _ st7 fun b hb o e => (pin' b hb o e).1, fun b hb => ?_, w'⟩
        · rw [← hw8] at e
          exact (wipe_some e).1
        · obtain ⟨o, e, _⟩ := T.obj _ _ st7 b hb
          exact (pin' b hb o e).2
      cases b with
      | false =>
        simp only [Bool.false_eq_true, if_false] at q9 ⊢
        exact fin I9 q9
      | true =>
        simp only [if_true] at q9 ⊢
        refine thnF (pe.run _ s9 σ8 H9 _ I9 q9) fun z s10 ⟨yv, H10, I10, r10, ad⟩ => ?_
        exact S.add (X.blk s3 H3 scope ce fp) rfl rfl _ _ _ _ _ D yv z Nx _ I10 r10 ad fun _ s11 H11 I11 nx => fin I11 nx
  exact PpSet.codeAny_compStart_set loop (T.self X.A 0 _ _ _ st4 loop)
theorem pe_scA {elt tg iter : Expr} {ifs : List Expr} {scope : Scope} {own : List (PySem.Str × Nat)} {pos : Pos} {wi : TI} {g : TG} {tt : L2.TT} {te : TE} {O0 : Addr → HO} {Ad : AdT} (S : SKind X.prog X.w O0 Ad) (hc : X.calm = true) (hN : X.N.Nodup) (hi : PI X tg iter wi) (ok : BlkOk X.N X.env.scope scope own)
    (hg : ∀ (s : Shared) (H : Hp) (C : Addr) (cl : List (PySem.Str × Addr)) (fp : List Addr), PG (X.blk s H scope (compEnvC scope cl C X.env) fp) tg g)
    (ht : ∀ (s : Shared) (H : Hp) (C : Addr) (cl : List (PySem.Str × Addr)) (fp : List Addr), PTs (X.blk s H scope (compEnvC scope cl C X.env) fp) ifs tt)
    (he : ∀ (s : Shared) (H : Hp) (C : Addr) (cl : List (PySem.Str × Addr)) (fp : List Addr), PE (X.blk s H scope (compEnvC scope cl C X.env) fp) elt te) (hs : ∀ x, foldedSetIterable iter X.env x = pure x := by intro _; rfl) :
    PE X (.SetComp elt [⟨tg, iter, ifs, 0⟩] scope pos) (tScA O0 Ad wi g tt te (own.map (·.2))) := by
  refine ⟨fun pins s σ H Q I h => ?_⟩
  rw [PpSet.eval_SetComp]
  refine scA_core S hc hN I hi ok hg ht he hs h fun D C s' m H' I' q hn f => ⟨m, hn, fun h'' sb => ?_⟩
  obtain ⟨f0, f1, f2, f3, f4, f5⟩ := f
  exact ⟨.ref D, H', I'.turned (t' := s'.toks) (fun b o hb e => (sb.2 b hb).trans e) f0 f1 f3 f4 f5, rfl, q⟩
end
/-- over a tuple that stays -/
theorem scA_tup {K : PySem.W.Frag} {a : Addr} {xs : List V} {g : TG} {tt : L2.TT} {te : TE} {vs : List Nat} {σ : L2.St} {H1 : Hp} {D : Addr} {Qd : Hp → Prop} {O0 : Addr → HO} {Ad : AdT} (Pv : Nat → Hp → Prop) (h0 : Pv 0 (upd H1 D (O0 D))) (hl : ∀ i H, i ≤ xs.length → Pv i H → SqT K H a xs)
    (hs : ∀ i x H, xs[i]? = some x → Pv i H → g x (wipe σ vs) H fun σ2 H2 => wipe σ2 vs = wipe σ vs ∧ tt σ2 H2 fun b H3 => if b = true then te σ2 H3 fun y H4 => Ad y D H4 (Pv (i + 1)) else Pv (i + 1) H3) (hd : ∀ H, Pv xs.length H → Qd H) :
    ∃ W : Nat → Nat → Hp → Prop, (∃ m, W 0 m (upd H1 D (O0 D))) ∧ ∀ i m H, W i m H →
      ((Itt K a).stop i H ∧ Qd H) ∨ ((Itt K a).go i H ∧ ∃ Nx : Hp → Prop, (∀ H', Nx H' → ∃ m', m' < m ∧ W (i + 1) m' H') ∧ ∀ x H', (Itt K a).yld i H x H' → g x (wipe σ vs) H' fun σ2 H2 => wipe σ2 vs = wipe σ vs ∧ tt σ2 H2 fun b H3 =>
        if b = true then te σ2 H3 fun y H4 => Ad y D H4 Nx else Nx H3) := by
  refine ⟨fun i m H => m = xs.length - i ∧ i ≤ xs.length ∧ Pv i H, ⟨xs.length, by simp, Nat.zero_le _, h0⟩, ?_⟩
  rintro i m H ⟨rfl, hi, p⟩
  have q := hl i H hi p
  by_cases hlt : i < xs.length
  · refine .inr ⟨⟨xs, xs[i], q, by simp [hlt]⟩, Pv (i + 1), fun H' p' => ⟨xs.length - (i + 1), by omega, rfl, hlt, p'⟩, fun x H' y => ?_⟩
    obtain ⟨e, y⟩ := y
    subst e
    exact hs i x _ (y xs q) p
  · have e : i = xs.length := by omega
    subst e
    exact .inl ⟨⟨xs, q, Nat.le_refl _⟩, hd H p⟩
/-! ### sets of whole numbers -/
def AdI (w : World) : AdT := fun y D H Nx => ∃ (k : Int) (S : Int → Bool) (n : Nat), y = .int k ∧ H D = some (SetO w D S n) ∧ n + 1 < scanBound ∧ Nx (upd H D (SetO w D (fun j => S j || decide (j = k)) (if S k = true then n else n + 1)))
theorem skI (P : Program) (w : World) : SKind P w (fun D => SetO w D (fun _ => false) 0) (AdI w) where
  new := fun H h => setO_new (setR_fresh w)
  add := fun Y hP hw pins σ H s E D y z Nx Q I r ad q => by
    subst hP hw
    obtain ⟨k, S, n, rfl, hD, room, nx⟩ := ad
    obtain ⟨tk, rfl⟩ := r
    refine setR_add (setO_get I hD) room fun h' sb new => ?_
    have he : ∃ u, h'.get? D = some u := by
      have ⟨o, _, _, _, ho, _⟩ := new
      exact ⟨o, ho⟩
    exact q _ _ _ (I.write (e := D) (t' := s.toks + 1) (by rw [hD]; trivial) (.inl rfl) (fun b u hb hu => (sb.2 b hb).trans hu) he (setO_new new)) nx
end Cs

namespace Cs
open PySem PySem.Spec PyProof.Rows L2
/-! ### formulas compared, sought in lists; what a proof has: plain law -/
/-- a formula that may be compared -/
def Fm.Ok (f : Fm) : Prop := f.Pl ∧ f.depth ≤ 60
theorem GdF.ok {f : Fm} (h : GdF f) : f.Ok := ⟨h.1, by have := h.2.1; omega⟩
theorem Fm.Ok.sh {f : Fm} (h : f.Ok) : SeqAt.shaped f.d = true := Fm.d_shaped h.1 (by have := h.2; omega)
section
variable {K : PySem.W.Frag} {H : Hp} {u v : V} {f g : Fm} {Q : VK}
theorem rd_eq (hu : FmV K H u f) (hv : FmV K H v g) (pf : f.Ok) (pg : g.Ok) (q : Q (.bl (decide (f = g))) H) : rEqD K u v H Q :=
  ⟨f.d, g.d, hu.dp, hv.dp, pf.sh, pg.sh, by rw [Fm.d_eqv]; exact q⟩
theorem rd_ne (hu : FmV K H u f) (hv : FmV K H v g) (pf : f.Ok) (pg : g.Ok) (q : Q (.bl (!decide (f = g))) H) : rNeD K u v H Q :=
  ⟨f.d, g.d, hu.dp, hv.dp, pf.sh, pg.sh, by rw [Fm.d_eqv]; exact q⟩
theorem depthAll_le {n : Nat} : ∀ {ds : List PyData}, (∀ d ∈ ds, d.depth ≤ n) → PyData.depthAll ds ≤ n
  | [], _ => Nat.zero_le _
  | d :: ds, h => by
    show max d.depth (PyData.depthAll ds) ≤ n
    have h1 := h d List.mem_cons_self
    have h2 := depthAll_le fun e he => h e (List.mem_cons_of_mem _ he)
    omega
theorem layAll {ds : List PyData} (h : ∀ d ∈ ds, d.canLay0 = true) : PyData.canLayAll0 ds = true := by
  induction ds with
  | nil => rfl
  | cons d ds ih =>
    show (d.canLay0 && PyData.canLayAll0 ds) = true
    rw [h d List.mem_cons_self, ih fun e he => h e (List.mem_cons_of_mem _ he)]
    rfl
theorem sh_list {fs : List Fm} (h : ∀ g ∈ fs, g.Ok) : SeqAt.shaped (.list (fs.map Fm.d)) = true := by
  have h1 : PyData.canLayAll0 (fs.map Fm.d) = true := layAll fun d hd => by
    obtain ⟨g, hg, rfl⟩ := List.mem_map.mp hd
    exact g.d_lay (h g hg).1
  have h2 : PyData.depthAll (fs.map Fm.d) ≤ 60 := depthAll_le fun d hd => by
    obtain ⟨g, hg, rfl⟩ := List.mem_map.mp hd
    rw [Fm.d_depth]
    exact (h g hg).2
  have h3 : PyData.depth (.list (fs.map Fm.d)) ≤ 64 := by
    show PyData.depthAll (fs.map Fm.d) + 1 ≤ 64
    omega
  unfold SeqAt.shaped
  rw [show PyData.canLay0 (.list (fs.map Fm.d)) = true from h1]
  simpa using h3
theorem any_eqv (f : Fm) : ∀ fs : List Fm, ((fs.map Fm.d).any fun z => PyData.eqv z f.d) = decide (f ∈ fs)
  | [] => by simp
  | g :: fs => by
    rw [List.map_cons, List.any_cons, any_eqv f fs, Fm.d_eqv]
    by_cases h : g = f
    · subst h; simp
    · simp [h, Ne.symm h, fun e : f = g => h e.symm]
theorem dp_list {a : Addr} {xs : List V} {ds : List PyData} (h : SqL K H a xs) (d : DtAll K H xs ds) : Dp K H (.ref a) (.list ds) := .lst h d.dp
theorem rd_in {a : Addr} {xs : List V} {fs : List Fm} (hu : FmV K H u f) (hl : SqL K H a xs) (hd : DtAll K H xs (fs.map Fm.d)) (pf : f.Ok) (pg : ∀ g ∈ fs, g.Ok) (q : Q (.bl (decide (f ∈ fs))) H) : rInD K u (.ref a) H Q :=
  ⟨f.d, fs.map Fm.d, hu.dp, dp_list hl hd, pf.sh, sh_list pg, by rw [any_eqv]; exact q⟩
theorem rd_notIn {a : Addr} {xs : List V} {fs : List Fm} (hu : FmV K H u f) (hl : SqL K H a xs) (hd : DtAll K H xs (fs.map Fm.d)) (pf : f.Ok) (pg : ∀ g ∈ fs, g.Ok) (q : Q (.bl (!decide (f ∈ fs))) H) : rNotInD K u (.ref a) H Q :=
  ⟨f.d, fs.map Fm.d, hu.dp, dp_list hl hd, pf.sh, sh_list pg, by rw [any_eqv]; exact q⟩
end
/-! why a line stands -/
theorem eqv_int (i j : Int) : PyData.eqv (.int i) (.int j) = decide (i = j) := by
  rw [PyData.eqv, Bool.eq_iff_iff]; simp
theorem Wy.d_eqv : ∀ w v : Wy, PyData.eqv w.d v.d = decide (w = v) := by
  have s1 : decide (("axiom" : Str) = "detach") = false := by decide +kernel
  have s2 : decide (("axiom" : Str) = "hypothesis") = false := by decide +kernel
  have s3 : decide (("detach" : Str) = "axiom") = false := by decide +kernel
  have s4 : decide (("detach" : Str) = "hypothesis") = false := by decide +kernel
  have s5 : decide (("hypothesis" : Str) = "axiom") = false := by decide +kernel
  have s6 : decide (("hypothesis" : Str) = "detach") = false := by decide +kernel
  intro w v
  cases w <;> cases v <;> simp only [Wy.d, eqv_tup, eqvA_cons, eqvA_nil, eqvA_cn, eqvA_nc, eqv_str, eqv_int, s1, s2, s3, s4, s5, s6, Bool.false_and, decide_true, Bool.true_and, Bool.and_true] <;> simp
theorem Wy.d_sh : ∀ w : Wy, SeqAt.shaped w.d = true
  | .ax k => by
    unfold SeqAt.shaped
    have h1 : PyData.strOk "axiom" = true := by decide +kernel
    simp [Wy.d, PyData.canLay0, PyData.canLayAll0, PyData.depth, PyData.depthAll, h1]
  | .dt i j => by
    unfold SeqAt.shaped
    have h1 : PyData.strOk "detach" = true := by decide +kernel
    simp [Wy.d, PyData.canLay0, PyData.canLayAll0, PyData.depth, PyData.depthAll, h1]
  | .hy => by
    unfold SeqAt.shaped
    have h1 : PyData.strOk "hypothesis" = true := by decide +kernel
    simp [Wy.d, PyData.canLay0, PyData.canLayAll0, PyData.depth, PyData.depthAll, h1]
theorem rd_wy {K : PySem.W.Frag} {H : Hp} {u v : V} {w y : Wy} {Q : VK} (hu : Dt K H u w.d) (hv : Dt K H v y.d) (q : Q (.bl (decide (w = y))) H) : rEqD K u v H Q :=
  ⟨w.d, y.d, hu.dp, hv.dp, w.d_sh, y.d_sh, by rw [Wy.d_eqv]; exact q⟩
/-- the kind of a line -/
def Wy.tag : Wy → Str
  | .ax _ => "axiom" | .dt _ _ => "detach" | .hy => "hypothesis"
theorem wy_tup {K : PySem.W.Frag} {H : Hp} {v : V} {w : Wy} (h : Dt K H v w.d) : ∃ a xs, v = .ref a ∧ SqT K H a (.str w.tag :: xs) := by
  cases wy_c h with
  | ax h2 => exact ⟨_, _, rfl, h2⟩
  | dt h2 => exact ⟨_, _, rfl, h2⟩
  | hy h2 => exact ⟨_, _, rfl, h2⟩
def Wy.isAx : Wy → Bool
  | .ax _ => true | _ => false
def Wy.isDt : Wy → Bool
  | .dt _ _ => true | _ => false
theorem tag_ax : ∀ w : Wy, decide (V.str w.tag = V.str "axiom") = w.isAx
  | .ax _ => (by decide +kernel : decide (V.str "axiom" = V.str "axiom") = true)
  | .dt _ _ => (by decide +kernel : decide (V.str "detach" = V.str "axiom") = false)
  | .hy => (by decide +kernel : decide (V.str "hypothesis" = V.str "axiom") = false)
theorem tag_dt : ∀ w : Wy, decide (V.str w.tag = V.str "detach") = w.isDt
  | .ax _ => (by decide +kernel : decide (V.str "axiom" = V.str "detach") = false)
  | .dt _ _ => (by decide +kernel : decide (V.str "detach" = V.str "detach") = true)
  | .hy => (by decide +kernel : decide (V.str "hypothesis" = V.str "detach") = false)
theorem tag_hy : ∀ w : Wy, decide (V.str w.tag = V.str "hypothesis") = decide (w = .hy)
  | .ax _ => (by decide +kernel : decide (V.str "axiom" = V.str "hypothesis") = false)
  | .dt _ _ => (by decide +kernel : decide (V.str "detach" = V.str "hypothesis") = false)
  | .hy => (by decide +kernel : decide (V.str "hypothesis" = V.str "hypothesis") = true)
/-! the hypotheses, each once -/
def hypS (acc : List Fm) (l : Ln) : List Fm := if l.2 = .hy ∧ l.1 ∉ acc then acc ++ [l.1] else acc
def hyps (ls : List Ln) : List Fm := ls.foldl hypS []
theorem foldl_take {α β : Type} {f : β → α → β} {b : β} {l : List α} {i : Nat} {x : α} (h : l[i]? = some x) : (l.take (i + 1)).foldl f b = f ((l.take i).foldl f b) x := by
  rw [List.take_succ, h, List.foldl_append]; rfl
theorem hypS_mem {acc : List Fm} {l : Ln} {g : Fm} (h : g ∈ hypS acc l) : g ∈ acc ∨ g = l.1 := by
  unfold hypS at h
  split at h
  · rcases List.mem_append.mp h with h | h
    · exact .inl h
    · exact .inr (List.mem_singleton.mp h)
  · exact .inl h
theorem hyps_mem' : ∀ (ls : List Ln) (acc : List Fm) {g : Fm}, g ∈ ls.foldl hypS acc → g ∈ acc ∨ ∃ l ∈ ls, g = l.1
  | [], _, _, h => .inl h
  | l :: ls, acc, g, h => by
    rcases hyps_mem' ls _ h with h | ⟨m, hm, e⟩
    · rcases hypS_mem h with h | e
      · exact .inl h
      · exact .inr ⟨l, List.mem_cons_self, e⟩
    · exact .inr ⟨m, List.mem_cons_of_mem _ hm, e⟩
theorem hyps_mem {ls : List Ln} {g : Fm} (h : g ∈ hyps ls) : ∃ l ∈ ls, g = l.1 := (hyps_mem' ls [] h).elim (fun h => nomatch h) id
theorem hypS_len (acc : List Fm) (l : Ln) : (hypS acc l).length ≤ acc.length + 1 := by
  unfold hypS
  split <;> simp
theorem hyps_len' : ∀ (ls : List Ln) (acc : List Fm), (ls.foldl hypS acc).length ≤ acc.length + ls.length
  | [], acc => by simp
  | l :: ls, acc => by
    have h1 := hyps_len' ls (hypS acc l)
    have h2 := hypS_len acc l
    simp only [List.foldl_cons, List.length_cons]
    omega
theorem hyps_len (ls : List Ln) : (hyps ls).length ≤ ls.length := by
  have := hyps_len' ls []
  rw [List.length_nil, Nat.zero_add] at this
  exact this
/-! the size as a tree -/
def szS (acc : List Nat) (l : Ln) : List Nat := acc ++ [match l.2 with | .dt i j => 1 + acc.getD i.toNat 0 + acc.getD j.toNat 0 | _ => 1]
def szs (ls : List Ln) : List Nat := ls.foldl szS []
theorem szs_len : ∀ (ls : List Ln) (acc : List Nat), (ls.foldl szS acc).length = acc.length + ls.length
  | [], acc => by simp
  | l :: ls, acc => by
    rw [List.foldl_cons, szs_len ls]
    simp [szS]; omega
/-- a line without a fault names lines before it -/
theorem dt_before {ls : List Ln} {k : Nat} {f : Fm} {i j : Int} (h : ls[k]? = some (f, .dt i j)) (e : flt ls k = none) : 0 ≤ i ∧ i < (k : Int) ∧ 0 ≤ j ∧ j < (k : Int) := by
  rw [flt_dtE h] at e
  unfold fltD at e
  by_cases c : 0 ≤ i ∧ i < (k : Int) ∧ 0 ≤ j ∧ j < (k : Int)
  · exact c
  · rw [if_neg c] at e; cases e
theorem ax_range {ls : List Ln} {k : Nat} {f : Fm} {n : Int} (h : ls[k]? = some (f, .ax n)) (e : flt ls k = none) : 1 ≤ n ∧ n ≤ 6 := by
  rw [flt_axE h] at e
  unfold fltA at e
  cases hx : axL.lookup n with
  | none => rw [hx] at e; cases e
  | some p => exact (axL_ok n p hx).2.2.2
/-- the numbers of the axioms -/
theorem axs_eq {ls : List Ln} {ns : List Int} (hn : ∀ k, k < ls.length → flt ls k = none) (hs : ns.Pairwise (· < ·)) (hm : ∀ n : Int, n ∈ ns ↔ ∃ l ∈ ls, l.2 = .ax n) :
    ns = ([1, 2, 3, 4, 5, 6] : List Int).filter fun n => decide (∃ l ∈ ls, l.2 = .ax n) := by
  have h6 : ([1, 2, 3, 4, 5, 6] : List Int).Pairwise (· < ·) := by decide
  have p2 := h6.filter fun n => decide (∃ l ∈ ls, l.2 = .ax n)
  have key : ∀ n : Int, n ∈ ns ↔ n ∈ ([1, 2, 3, 4, 5, 6] : List Int).filter fun n => decide (∃ l ∈ ls, l.2 = .ax n) := fun n => by
    rw [List.mem_filter, hm, decide_eq_true_iff]
    refine ⟨fun h => ⟨?_, h⟩, fun h => h.2⟩
    obtain ⟨⟨f, y⟩, hl, rfl⟩ := h
    obtain ⟨k, hk⟩ := List.getElem?_of_mem hl
    have := ax_range hk (hn k (List.getElem?_eq_some_iff.mp hk).1)
    simp only [List.mem_cons, List.not_mem_nil, or_false]
    omega
  have go : ∀ (a b : List Int), a.Pairwise (· < ·) → b.Pairwise (· < ·) → (∀ n, n ∈ a ↔ n ∈ b) → a = b := by
    intro a
    induction a with
    | nil =>
      intro b _ _ h
      cases b with
      | nil => rfl
      | cons y b => exact absurd ((h y).mpr List.mem_cons_self) (by simp)
    | cons x a ih =>
      intro b ha hb h
      cases b with
      | nil => exact absurd ((h x).mp List.mem_cons_self) (by simp)
      | cons y b =>
        rw [List.pairwise_cons] at ha hb
        have exy : x = y := by
          rcases List.mem_cons.mp ((h x).mp List.mem_cons_self) with e | e
          · exact e
          · rcases List.mem_cons.mp ((h y).mpr List.mem_cons_self) with e2 | e2
            · exact e2.symm
            · have h1 := hb.1 x e; have h2 := ha.1 y e2; omega
        subst exy
        rw [ih b ha.2 hb.2 fun n => ?_]
        constructor
        · intro hn'
          rcases List.mem_cons.mp ((h n).mp (List.mem_cons_of_mem _ hn')) with e | e
          · subst e; have := ha.1 n hn'; omega
          · exact e
        · intro hn'
          rcases List.mem_cons.mp ((h n).mpr (List.mem_cons_of_mem _ hn')) with e | e
          · subst e; have := hb.1 n hn'; omega
          · exact e
  exact go _ _ hs p2 key
end Cs
namespace Cs
open PySem PySem.Spec PyProof.Rows L2
theorem u65 {k : Nat} {A : Around} (r : Room k A) : A.units + 65 < cLine := by have := r.un; omega
theorem atI_neg1 {α : Type} (xs : List α) : atI xs (-1) = xs.getLast? := by
  cases xs with
  | nil => rfl
  | cons x xs =>
    have e : ixN (x :: xs).length (-1) = some xs.length := by
      unfold ixN
      rw [if_neg (by omega), if_pos (by simp only [List.length_cons]; omega), List.length_cons]
      congr 1
      omega
    show ((ixN (x :: xs).length (-1)).bind fun j => (x :: xs)[j]?) = _
    rw [e, List.getLast?_eq_getElem?]
    rfl
end Cs
namespace Cs
open PySem PySem.Spec PyProof.Rows L2
/-! ### in a block: the frame by its letter -/
section
variable {X : Cx} {K : PySem.W.Frag}
theorem call_len_seqK (hK : X.K = K) : CallR X (.builtin "len") (fun xs H Q => ∃ p ys, xs = [.ref p] ∧ (SqL K H p ys ∨ SqT K H p ys) ∧ Q (.int ys.length) H) := by
  subst hK; exact call_len_seq
theorem op_eqDK (hK : X.K = K) (hu : X.A.units + 64 < cLine) : OpR X (compareOp .Eq) (rEqD K) := by
  subst hK; exact op_eqD hu
theorem op_neDK (hK : X.K = K) (hu : X.A.units + 64 < cLine) : OpR X (compareOp .NotEq) (rNeD K) := by
  subst hK; exact op_neD hu
theorem op_inDK (hK : X.K = K) (hu : X.A.units + 65 < cLine) : OpR X (compareOp .In) (rInD K) := by
  subst hK; exact op_inD hu
theorem op_notInDK (hK : X.K = K) (hu : X.A.units + 65 < cLine) : OpR X (compareOp .NotIn) (rNotInD K) := by
  subst hK; exact op_notInD hu
theorem pi_listK {tg l : Expr} {tl : TE} (hK : X.K = K) (hl : PE X l tl) : PI X tg l (iList K tl) := by
  subst hK; exact pi_list hl
end
end Cs

namespace Cs
open PySem PySem.Spec PyProof.Rows L2
/-! ### list(text) -/
def sgV (c : Nat) : V := .str ⟨#[c]⟩
theorem vals_signs {x : Str} : ∀ (us : List Value) (cs : List Nat), us.length = cs.length → (∀ (j : Nat) (v : Value), us[j]? = some v → ∃ c u, cs[j]? = some c ∧ v = .str ⟨#[c]⟩ u) → Vals (cs.map sgV) us
  | [], [], _, _ => Paired.nil
  | [], _ :: _, h, _ => by simp at h
  | _ :: _, [], h, _ => by simp at h
  | u :: us, c :: cs, hl, h => by
    obtain ⟨c', t, e1, e2⟩ := h 0 u rfl
    cases e1
    exact Paired.cons (show RelV (sgV c) u from ⟨t, e2⟩) (vals_signs (x := x) us cs (by simpa using hl) fun j v hj => h (j + 1) v hj)
section
variable {X : Cx}
theorem cr_listStr (hc : X.calm = true) : CallR X (.type "list") (fun xs H Q => ∃ (x : Str), xs = [V.str x] ∧ x.cps.size ≤ sizeLine ∧ ∀ p : Addr, H p = none → Q (.ref p) (upd H p (.lst (x.cps.toList.map sgV)))) := by
  intro pins s σ H xs us Q I r h
  obtain ⟨x, rfl, hL, q⟩ := h
  obtain ⟨u, rfl, rx⟩ := vals1 r
  obtain ⟨t, rfl⟩ := rx
  refine call_list_str (I.ok.hd hc) x t (fun h' tk acc c k hg hi => ?_) hL
  have hn : H s.heap.objs.size = none := I.hok.fresh (Nat.le_refl _)
  have hlen : (x.cps.toList.map sgV).length ≤ sizeLine := by rw [List.length_map]; exact hL
  have hv : Vals (x.cps.toList.map sgV) acc.toList := vals_signs (x := x) _ _ (by simpa using hi.1) fun j v hj => by
    obtain ⟨cc, u, e1, e2⟩ := hi.2 j v (by rw [← Array.getElem?_toList]; exact hj)
    exact ⟨cc, u, by rw [Array.getElem?_toList]; exact e1, e2⟩
  have J : Inv X pins σ (upd H s.heap.objs.size (.lst (x.cps.toList.map sgV))) { s with heap := h', toks := tk } :=
    I.call (ch := []) (Un.laid k (Nat.le_refl _) hn) (I.hok.laid k (Nat.le_refl _) ⟨hlen, acc.toList, c, hv, hg⟩) I.bare (fun _ z => nomatch z)
  exact ⟨.ref _, _, J, rfl, q _ hn⟩
end
/-! ### letters in order: plain law -/
namespace Fm
/-- letters in the order in which they first occur -/
def ord : Fm → List Str
  | .lt n => [n]
  | .ng p => p.ord
  | .im p q => p.ord ++ q.ord.filter fun n => decide (n ∉ p.ord)
def ordS (acc : List Str) (p : Fm) : List Str := acc ++ p.ord.filter fun n => decide (n ∉ acc)
theorem ord_kids : ∀ {f : Fm}, f.isLt = false → f.ord = f.kids.foldl ordS []
  | .lt _, h => nomatch h
  | .ng p, _ => by
    show p.ord = [] ++ p.ord.filter _
    rw [List.nil_append]
    exact (List.filter_eq_self.mpr fun a _ => decide_eq_true (by simp)).symm
  | .im p q, _ => by
    show p.ord ++ _ = ordS (ordS [] p) q
    have e : ordS [] p = p.ord := by
      unfold ordS
      rw [List.nil_append]
      exact List.filter_eq_self.mpr fun a _ => decide_eq_true (by simp)
    rw [e]
    rfl
theorem ord_mem : ∀ {f : Fm} {x : Str}, x ∈ f.ord ↔ x ∈ f.lets
  | .lt n, x => Iff.rfl
  | .ng p, x => by show x ∈ p.ord ↔ x ∈ p.lets; exact ord_mem
  | .im p q, x => by
    show x ∈ p.ord ++ _ ↔ x ∈ p.lets ++ q.lets
    rw [List.mem_append, List.mem_append, List.mem_filter, decide_eq_true_iff, ord_mem (f := p), ord_mem (f := q)]
    constructor
    · rintro (h | ⟨h, _⟩)
      · exact .inl h
      · exact .inr h
    · rintro (h | h)
      · exact .inl h
      · by_cases c : x ∈ p.lets
        · exact .inl c
        · exact .inr ⟨h, c⟩
theorem ord_nodup : ∀ f : Fm, f.ord.Nodup
  | .lt n => by simp [ord]
  | .ng p => ord_nodup p
  | .im p q => by
    show (p.ord ++ _).Nodup
    rw [List.nodup_append]
    refine ⟨ord_nodup p, (ord_nodup q).filter _, fun a ha b hb e => ?_⟩
    rw [List.mem_filter, decide_eq_true_iff] at hb
    exact hb.2 (e ▸ ha)
end Fm
/-- the place of a name in a list -/
def plc (l : List Str) (n : Str) : Option Nat := l.findIdx? fun m => decide (m = n)
/-- names for letters by a list -/
def tabO (l ns : List Str) : Str → Option Fm := fun n => (plc l n).bind fun i => (ns[i]?).map Fm.lt
theorem plc_none {l : List Str} {n : Str} (h : n ∉ l) : plc l n = none := by
  unfold plc
  rw [List.findIdx?_eq_none_iff]
  intro x hx
  exact decide_eq_false fun e => h (e ▸ hx)
theorem plc_take {l : List Str} {n : Str} {i : Nat} (nd : l.Nodup) (h : l[i]? = some n) : plc l n = some i := by
  unfold plc
  rw [List.findIdx?_eq_some_iff_getElem]
  obtain ⟨hi, e⟩ := List.getElem?_eq_some_iff.mp h
  refine ⟨hi, decide_eq_true e, fun j hj => ?_⟩
  rw [Bool.not_eq_true, decide_eq_false_iff_not]
  intro e2
  have := (List.getElem_inj nd).mp (e2.trans e.symm)
  omega
end Cs
namespace Cs
open PySem PySem.Spec PyProof.Rows L2
theorem Fm.ord_len : ∀ f : Fm, f.ord.length ≤ f.size
  | .lt _ => Nat.le_refl _
  | .ng p => by have := Fm.ord_len p; show p.ord.length ≤ 1 + p.size; omega
  | .im p q => by
    have h1 := Fm.ord_len p
    have h2 := Fm.ord_len q
    have h3 := List.length_filter_le (fun n => decide (n ∉ p.ord)) q.ord
    show (p.ord ++ _).length ≤ 1 + (p.size + q.size)
    rw [List.length_append]
    omega
theorem take_size : ∀ (l : List Fm) (i : Nat), ((l.take i).foldl Fm.ordS []).length ≤ (l.map Fm.size).sum := by
  have gen : ∀ (l : List Fm) (acc : List Str), (l.foldl Fm.ordS acc).length ≤ acc.length + (l.map Fm.size).sum := by
    intro l
    induction l with
    | nil => intro acc; simp
    | cons p l ih =>
      intro acc
      have h1 := ih (Fm.ordS acc p)
      have h2 := List.length_filter_le (fun n => decide (n ∉ acc)) p.ord
      have h3 := p.ord_len
      have h4 : (Fm.ordS acc p).length = acc.length + (p.ord.filter fun n => decide (n ∉ acc)).length := by unfold Fm.ordS; rw [List.length_append]
      simp only [List.foldl_cons, List.map_cons, List.sum_cons]
      omega
  intro l i
  have h1 := gen (l.take i) []
  have h2 := take_sum l i
  simp only [List.length_nil] at h1
  omega
theorem kid_size : ∀ {f g : Fm}, g ∈ f.kids → g.size < f.size
  | .lt _, _, h => nomatch h
  | .ng p, g, h => by
    have e : g = p := by simpa [Fm.kids] using h
    subst e; show g.size < 1 + g.size; omega
  | .im p q, g, h => by
    have e : g = p ∨ g = q := by simpa [Fm.kids] using h
    show g.size < 1 + (p.size + q.size)
    rcases e with rfl | rfl <;> omega
def smL : List Nat := ("abcdefghijklmnopqrstuvwxyz" : Str).cps.toList
def dgL : List Nat := ("0123456789" : Str).cps.toList
/-- a, b, .. z, a0, b0, .. -/
def nmsAll : List Str := smL.map (fun c => (⟨#[c]⟩ : Str)) ++ dgL.flatMap fun d => smL.map fun c => (⟨#[c]⟩ : Str) ++ (⟨#[d]⟩ : Str)
theorem nms_at : ∀ k, k < 40 → nmsAll[k]? = (smL[k % 26]?).map fun c => if 25 < k then (⟨#[c]⟩ : Str) ++ ("0" : Str) else ⟨#[c]⟩ := by decide +kernel
theorem nms_len : nmsAll.length = 286 := by decide +kernel
theorem plc_succ {l : List Str} {x : Str} {i : Nat} (nd : l.Nodup) (h : l[i]? = some x) (m : Str) : plc (l.take (i + 1)) m = if m = x then some i else plc (l.take i) m := by
  have hi := (List.getElem?_eq_some_iff.mp h).1
  have e : l.take (i + 1) = l.take i ++ [x] := by rw [List.take_succ, h]; rfl
  by_cases c : m = x
  · subst c
    rw [if_pos rfl]
    exact plc_take (nd.sublist (List.take_sublist _ _)) (by rw [List.getElem?_take]; simp [h])
  · rw [if_neg c, e]
    unfold plc
    rw [List.findIdx?_append]
    have : ([x] : List Str).findIdx? (fun y => decide (y = m)) = none := by
      rw [List.findIdx?_eq_none_iff]
      intro y hy
      rw [List.mem_singleton] at hy
      subst hy
      exact decide_eq_false fun e => c e.symm
    rw [this]
    simp
theorem tabO_succ {l ns : List Str} {x y : Str} {i : Nat} (nd : l.Nodup) (h : l[i]? = some x) (hy : ns[i]? = some y) (m : Str) : tabO (l.take (i + 1)) ns m = if m = x then some (.lt y) else tabO (l.take i) ns m := by
  unfold tabO
  rw [plc_succ nd h]
  by_cases c : m = x
  · rw [if_pos c, if_pos c]
    show (ns[i]?).map Fm.lt = _
    rw [hy]; rfl
  · rw [if_neg c, if_neg c]
theorem tabO_lt {l ns : List Str} {m : Str} {g : Fm} (h : tabO l ns m = some g) : ∃ y, g = .lt y := by
  unfold tabO at h
  cases e : plc l m with
  | none => rw [e] at h; cases h
  | some i =>
    rw [e] at h
    cases e2 : ns[i]? with
    | none => rw [show (some i).bind (fun i => (ns[i]?).map Fm.lt) = (ns[i]?).map Fm.lt from rfl, e2] at h; cases h
    | some y => rw [show (some i).bind (fun i => (ns[i]?).map Fm.lt) = (ns[i]?).map Fm.lt from rfl, e2] at h; exact ⟨y, (Option.some.inj h).symm⟩
theorem tabO_nil {ns : List Str} (m : Str) : tabO [] ns m = none := rfl
theorem Tb.congr {K : PySem.W.Frag} {H : Hp} {d : Addr} {N : Nat} {t u : Str → Option Fm} (T : Tb K H d N t) (h : ∀ m, u m = t m) : Tb K H d N u := by
  rw [show u = t from funext h]; exact T
/-- a formula named anew -/
def Fm.ren (f : Fm) : Fm := f.put (tabO f.ord nmsAll)
theorem ren_dep (f : Fm) : f.ren.depth ≤ f.depth + 1 := put_dep (k := 1) (fun m g h => by
  obtain ⟨y, rfl⟩ := tabO_lt h
  exact Nat.le_refl _) (Nat.le_refl _) f
theorem ord_lets : ∀ f : Fm, f.ord.length ≤ f.lets.length
  | .lt _ => Nat.le_refl _
  | .ng p => ord_lets p
  | .im p q => by
    have h1 := ord_lets p
    have h2 := ord_lets q
    have h3 := List.length_filter_le (fun n => decide (n ∉ p.ord)) q.ord
    show (p.ord ++ _).length ≤ (p.lets ++ q.lets).length
    rw [List.length_append, List.length_append]
    omega
end Cs
namespace Cs
open PySem PySem.Spec PyProof.Rows L2
theorem cutL_to (xs : List V) (b : Nat) : cutV xs none (some (b : Int)) = xs.take b := by
  unfold cutV
  rw [HT.sIx_nat, HT.sIx_none]
  show List.take (min b xs.length - 0) (List.drop 0 xs) = xs.take b
  rw [List.drop_zero, Nat.sub_zero, List.take_eq_take_iff]
  omega
end Cs

namespace Cs
open PySem PySem.Spec PyProof.Rows L2
/-! ### turns of a walk in a block, whatever its body asks -/
section
variable {J : It} {Body : V → Hp → (Hp → Prop) → Prop} {H0 : Hp} {Done : Hp → Prop} {K : PySem.W.Frag}
abbrev Turns (J : It) (Body : V → Hp → (Hp → Prop) → Prop) (H0 : Hp) (Done : Hp → Prop) : Prop := ∃ W : Nat → Nat → Hp → Prop, (∃ m, W 0 m H0) ∧ ∀ i m H, W i m H →
  (J.stop i H ∧ Done H) ∨ (J.go i H ∧ ∃ Nx : Hp → Prop, (∀ H', Nx H' → ∃ m', m' < m ∧ W (i + 1) m' H') ∧ ∀ x H', J.yld i H x H' → Body x H' Nx)
theorem turns {n : Nat} (Pv : Nat → Hp → Prop) (h0 : Pv 0 H0) (stop : ∀ H, Pv n H → J.stop n H ∧ Done H) (go : ∀ i H, i < n → Pv i H → J.go i H ∧ ∀ x H', J.yld i H x H' → Body x H' (Pv (i + 1))) : Turns J Body H0 Done := by
  refine ⟨fun i m H => m = n - i ∧ i ≤ n ∧ Pv i H, ⟨n, rfl, Nat.zero_le _, h0⟩, ?_⟩
  rintro i m H ⟨rfl, hi, p⟩
  by_cases hlt : i < n
  · obtain ⟨g, b⟩ := go i H hlt p
    exact .inr ⟨g, Pv (i + 1), fun H' p' => ⟨n - (i + 1), by omega, rfl, hlt, p'⟩, b⟩
  · have e : i = n := by omega
    subst e
    exact .inl (stop H p)
theorem turns_tup {a : Addr} {xs : List V} (Pv : Nat → Hp → Prop) (h0 : Pv 0 H0) (hl : ∀ i H, i ≤ xs.length → Pv i H → SqT K H a xs) (hs : ∀ i x H, xs[i]? = some x → Pv i H → Body x H (Pv (i + 1))) (hd : ∀ H, Pv xs.length H → Done H) : Turns (Itt K a) Body H0 Done :=
  turns (n := xs.length) Pv h0 (fun H p => ⟨⟨xs, hl _ H (Nat.le_refl _) p, Nat.le_refl _⟩, hd H p⟩) fun i H hi p => by
    have q := hl i H (Nat.le_of_lt hi) p
    refine ⟨⟨xs, xs[i], q, by simp [hi]⟩, fun x H' y => ?_⟩
    obtain ⟨e, y⟩ := y
    subst e
    exact hs i x _ (y xs q) p
theorem turns_list {a : Addr} {xs : List V} (Pv : Nat → Hp → Prop) (h0 : Pv 0 H0) (hl : ∀ i H, i ≤ xs.length → Pv i H → SqL K H a xs) (hs : ∀ i x H, xs[i]? = some x → Pv i H → Body x H (Pv (i + 1))) (hd : ∀ H, Pv xs.length H → Done H) : Turns (Itl K a) Body H0 Done :=
  turns (n := xs.length) Pv h0 (fun H p => ⟨⟨xs, hl _ H (Nat.le_refl _) p, Nat.le_refl _⟩, hd H p⟩) fun i H hi p => by
    have q := hl i H (Nat.le_of_lt hi) p
    refine ⟨⟨xs, xs[i], q, by simp [hi]⟩, fun x H' y => ?_⟩
    obtain ⟨e, y⟩ := y
    subst e
    exact hs i x _ (y xs q) p
theorem turns_range {lo : Int} {n : Nat} (Pv : Nat → Hp → Prop) (h0 : Pv 0 H0) (hs : ∀ i H, i < n → Pv i H → Body (.int (lo + i)) H (Pv (i + 1))) (hd : ∀ H, Pv n H → Done H) : Turns (Itr lo n) Body H0 Done :=
  turns (n := n) Pv h0 (fun H p => ⟨Nat.le_refl _, hd H p⟩) fun i H hi p => by
    refine ⟨hi, fun x H' y => ?_⟩
    obtain ⟨e, y⟩ := y
    subst e y
    exact hs i _ hi p
theorem turns_str {t : Str} (Pv : Nat → Hp → Prop) (h0 : Pv 0 H0) (hs : ∀ i c H, t.cps.toList[i]? = some c → Pv i H → Body (sgV c) H (Pv (i + 1))) (hd : ∀ H, Pv t.cps.size H → Done H) : Turns (Its t) Body H0 Done :=
  turns (n := t.cps.size) Pv h0 (fun H p => ⟨Nat.le_refl _, hd H p⟩) fun i H hi p => by
    refine ⟨hi, fun x H' y => ?_⟩
    obtain ⟨e, c, hc, y⟩ := y
    subst e y
    exact hs i c _ (by rw [Array.getElem?_toList]; exact hc) p
/-- zip of two lists -/
theorem turns_zip {a b : Addr} {xs ys : List V} (Pv : Nat → Hp → Prop) (h0 : Pv 0 H0) (hl : ∀ i H, i ≤ min xs.length ys.length → Pv i H → SqL K H a xs ∧ SqL K H b ys)
    (hs : ∀ i x y T H, xs[i]? = some x → ys[i]? = some y → Pv i H → H T = none → Body (.ref T) (upd H T (.tup [x, y])) (Pv (i + 1))) (hd : ∀ H, Pv (min xs.length ys.length) H → Done H) : Turns (Itz K a b) Body H0 Done :=
  turns (n := min xs.length ys.length) Pv h0 (fun H p => ⟨⟨xs, ys, (hl _ H (Nat.le_refl _) p).1, (hl _ H (Nat.le_refl _) p).2, by omega⟩, hd H p⟩) fun i H hi p => by
    obtain ⟨q1, q2⟩ := hl i H (Nat.le_of_lt hi) p
    have h1 : i < xs.length := by omega
    have h2 : i < ys.length := by omega
    refine ⟨⟨xs, ys, xs[i], ys[i], q1, q2, by simp [h1], by simp [h2]⟩, fun x H' y => ?_⟩
    obtain ⟨T, x', y', rfl, hT, rfl, e1, e2⟩ := y
    exact hs i x' y' T H (e1 xs q1) (e2 ys q2) p hT
/-- zip of two tuples -/
theorem turns_zipT {a b : Addr} {xs ys : List V} (Pv : Nat → Hp → Prop) (h0 : Pv 0 H0) (hl : ∀ i H, i ≤ min xs.length ys.length → Pv i H → SqT K H a xs ∧ SqT K H b ys)
    (hs : ∀ i x y T H, xs[i]? = some x → ys[i]? = some y → Pv i H → H T = none → Body (.ref T) (upd H T (.tup [x, y])) (Pv (i + 1))) (hd : ∀ H, Pv (min xs.length ys.length) H → Done H) : Turns (RZ.ItzT K a b) Body H0 Done :=
  turns (n := min xs.length ys.length) Pv h0 (fun H p => ⟨⟨xs, ys, (hl _ H (Nat.le_refl _) p).1, (hl _ H (Nat.le_refl _) p).2, by omega⟩, hd H p⟩) fun i H hi p => by
    obtain ⟨q1, q2⟩ := hl i H (Nat.le_of_lt hi) p
    have h1 : i < xs.length := by omega
    have h2 : i < ys.length := by omega
    refine ⟨⟨xs, ys, xs[i], ys[i], q1, q2, by simp [h1], by simp [h2]⟩, fun x H' y => ?_⟩
    obtain ⟨T, x', y', rfl, hT, rfl, e1, e2⟩ := y
    exact hs i x' y' T H (e1 xs q1) (e2 ys q2) p hT
end
/-! ### in a block -/
section
variable {X : Cx} {K : PySem.W.Frag}
theorem op_in_seqK (hK : X.K = K) : OpR X (compareOp .In) (rIn K false) := by
  subst hK; exact op_in_seq
theorem op_notIn_seqK (hK : X.K = K) : OpR X (compareOp .NotIn) (rIn K true) := by
  subst hK; exact op_notIn_seq
theorem pi_zipAK {e e2 : Expr} {ta : TA} {p pos tpos : Pos} {elts : List Expr} {kk : Nat} (hK : X.K = K) (hg : Gl X "zip") (hm : X.mg "zip" = none) (ha : PA X [e, e2] ta)
    (hs : starEach [e, e2] X.env = (false, eval e X.env) :: starEach [e2] X.env := by rfl) (hpl : (backTo pos (starEach [e2] X.env)).any (·.1) = false := by rfl) :
    PI X (.Tuple elts kk tpos) (.Call (.Name "zip" p) [e, e2] [] pos) (RZ.iZipA K ta) := by
  subst hK; exact RZ.pi_zipA hg hm ha hs hpl
end
end Cs

namespace Cs
open PySem PySem.Spec PyProof.Rows L2
open Sem (wp)
/-! ### {**d, k: v}, dict(d) -/
section
variable {prog : Program} {w : World} {κ : Type} [DecidableEq κ] {knd : KeyKind prog w κ} {A : Around} {E : Value → Shared → Prop} {s : Shared}
theorem dictPut_ok {d : Addr} {kvs : List (κ × Value)} {k : κ} {key v : Value} {Q : Unit → Shared → Prop} (hkey : knd.is k key = true) (hm : s.heap.DictOf knd d kvs)
    (hz : kvs.length ≤ sizeLine) (hQ : ∀ h', h'.DictOf knd d (stored kvs k v) → Heap.SameBut d s.heap h' → Q () { s with heap := h' }) : wpAny (model prog w) A (dictPut d (knd.hash k) key v) Q E s := by
  obtain ⟨o, es, ep, ho, hc, hd, hk, hp, hn⟩ := hm
  have hes : es.size ≤ sizeLine := by
    have e1 := hp.length
    have e2 : es.toList.length = es.size := by simp
    omega
  unfold dictPut
  refine wpAny_bind (wpAny_dictFind_of hkey ho hd hk ?_)
  have hidx : (es.findIdx? fun e => knd.is k e.key) = kvs.findIdx? fun kv => decide (kv.1 = k) := by
    rw [← hp.findIdx k]
    cases es
    simp
  cases hi : es.findIdx? fun e => knd.is k e.key with
  | some i =>
    refine wpAny_updateDict ho hd (hQ _ ⟨_, _, ep, Heap.get?_update_self _ ho (Obj.isFreed_of_dict (Obj.data_mapDict hd _)), hc.mapDict _, Obj.data_mapDict hd _, hk.modify _ _, ?_, ?_⟩ (Heap.SameBut.update ..))
    · rw [stored, if_pos (any_of_findIdx_some (hidx ▸ hi))]
      have hl : (es.toList.findIdx? fun e => knd.is k e.key) = some i := by
        rw [← hi]
        cases es
        simp
      have key := hp.modify hn hl v
      cases es
      simpa using key
    · rw [stored, if_pos (any_of_findIdx_some (hidx ▸ hi)), keys_map_store]
      exact hn
  | none =>
    have hnot : k ∉ kvs.map (·.1) := not_mem_of_findIdx_none (hidx ▸ hi)
    have hany : ¬ (kvs.any fun kv => decide (kv.1 = k)) = true := by
      rw [List.any_eq_true]
      rintro ⟨kv, hkv, he⟩
      exact hnot (List.mem_map.mpr ⟨kv, hkv, of_decide_eq_true he⟩)
    refine wpAny_updateDictKeys (hz := hes) ho hd (hQ _ ⟨_, _, ep + 1, Heap.get?_update_self _ ho (Obj.isFreed_of_dict (Obj.data_mapDictKeys hd _)), hc.mapDictKeys _, Obj.data_mapDictKeys hd _, hk.push hkey _, ?_, ?_⟩ (Heap.SameBut.update ..))
    · rw [stored, if_neg hany]
      have key := hp.append hkey (knd.hash k) v
      cases es
      simpa using key
    · rw [stored, if_neg hany, List.map_append, List.nodup_append]
      refine ⟨hn, by simp, fun a ha b hb e => ?_⟩
      have hb : b = k := by simpa using hb
      subst hb
      exact hnot (e ▸ ha)
/-- the items of one dict into another one -/
theorem mergeMapping_ok {d o : Addr} {kvs more : List (κ × Value)} {Q : Unit → Shared → Prop} (hdo : d ≠ o) (hoS : (o == sysModules) = false) (hd : s.heap.DictOf knd d kvs) (ho : s.heap.DictOf knd o more)
    (hz : kvs.length + more.length ≤ sizeLine) (hQ : ∀ h', h'.DictOf knd d (merged kvs more) → Heap.SameBut d s.heap h' → Q () { s with heap := h' }) : wpAny (model prog w) A (mergeMapping d (.ref o) false) Q E s := by
  obtain ⟨od, esd, epd, hod, hcd, hdd, hkd, hpd, hnd⟩ := id hd
  obtain ⟨oo, eso, epo, hoo, hco, hdo', hko, hpo, hno⟩ := id ho
  have hlen : more.length = eso.size := by rw [← hpo.length]; simp
  unfold mergeMapping
  refine wpAny_bind (wpAny_isInstance ho.typeIs isSubtype_dict_dict ?_)
  simp only [if_true]
  refine wpAny_bind (wpAny_specialOf ho.typeIs PySem.F.slot_dict_iter.lookup (wpAny_bind (wpAny_pure ?_)))
  simp only [beq_self_eq_true]
  rw [if_neg (by rw [hoS]; exact Bool.false_ne_true)]
  -- the second half: the items one by one
  have turn : wpAny (model prog w) A (do
      let size := (← dictEntries o).size
      let epoch ← dictEpoch o
      for i in List.range size do
        let some e := (← dictEntries o)[i]? | unsupported "dict.changed-during-merge"
        holding [e.key, e.val] do
          if false then
            if (← dictFind d e.key e.hash).isSome then rule "dict.merge.duplicate-key"; raiseNew (← newExc (.type "KeyError") [e.key])
          dictPut d e.hash e.key e.val
        if (← dictEpoch o) != epoch then unsupported "dict.changed-during-merge" : Sem Unit) Q E s := by
    refine wpAny_bind (wpAny_dictEntries hoo hdo' ?_)
    refine wpAny_bind (wpAny_dictEpoch hoo hdo' ?_)
    refine wpAny_bind ?_
    refine wpAny_forIn_list _ (fun rest _ s' => ∃ h' i, s' = { s with heap := h' } ∧ rest = (List.range eso.size).drop i ∧ i ≤ eso.size ∧ h'.DictOf knd d (merged kvs (more.take i)) ∧ h'.get? o = some oo ∧ Heap.SameBut d s.heap h') _ ?_ ?_ _ _
      ⟨s.heap, 0, rfl, rfl, Nat.zero_le _, by simpa [merged] using hd, hoo, Heap.SameBut.refl _ _⟩
    · rintro x rest b s' ⟨h', i, rfl, hr, hi, hd', hoo', hs'⟩
      have hlt : i < eso.size := by
        rcases Nat.lt_or_ge i eso.size with h | h
        · exact h
        · rw [List.drop_eq_nil_of_le (by simpa using h)] at hr
          cases hr
      rw [List.drop_eq_getElem_cons (by simpa using hlt)] at hr
      obtain ⟨rfl, hrest⟩ : x = i ∧ rest = (List.range eso.size).drop (i + 1) := by
        injection hr with h1 h2
        exact ⟨by rw [h1]; simp, h2⟩
      refine wpAny_bind (wpAny_dictEntries hoo' hdo' ?_)
      rw [Array.getElem?_eq_getElem hlt]
      obtain ⟨kv, hkv⟩ : ∃ kv, more[x]? = some kv := ⟨more[x]'(by rw [hlen]; exact hlt), List.getElem?_eq_getElem _⟩
      obtain ⟨k, v⟩ := kv
      obtain ⟨hkey, hval⟩ := hpo.get? (e := eso[x]) (by simp [hlt]) hkv
      obtain ⟨k', hkey', hhash⟩ := hko eso[x] (Array.getElem_mem hlt)
      obtain rfl : k' = k := knd.inj _ _ _ hkey' hkey
      show wpAny _ _ (holding [eso[x].key, eso[x].val] _ >>= _) _ _ _
      have hmx : (merged kvs (more.take x)).length ≤ sizeLine := by
        have e1 := merged_length_le kvs (more.take x)
        have e2 : (more.take x).length ≤ more.length := by rw [List.length_take]; omega
        omega
      refine wpAny_bind (wpAny_holding ?_)
      simp only [Bool.false_eq_true, if_false]
      rw [hhash, hval]
      refine dictPut_ok hkey hd' hmx fun h'' hd'' hs'' => ?_
      have hoo'' : h''.get? o = some oo := (hs''.2 o (Ne.symm hdo)).trans hoo'
      refine wpAny_bind (wpAny_dictEpoch hoo'' hdo' ?_)
      rw [if_neg (by simp)]
      exact wpAny_pure ⟨h'', x + 1, rfl, hrest, hlt, by rw [merged_take_succ kvs more x (k', v) hkv]; exact hd'', hoo'', hs'.trans hs''⟩
    · rintro b s' ⟨h', i, rfl, hr, hi, hd', hoo', hs'⟩
      have hin : i = eso.size := by
        rcases Nat.lt_or_ge i eso.size with h | h
        · rw [List.drop_eq_getElem_cons (by simpa using h)] at hr
          cases hr
        · exact Nat.le_antisymm hi h
      subst hin
      rw [← hlen, List.take_length] at hd'
      exact wpAny_pure (hQ h' hd' hs')
  refine wpAny_bind (wpAny_dictEntries hod hdd ?_)
  split
  · refine wpAny_bind (wpAny_dictEntries hoo hdo' ?_)
    refine wpAny_bind ?_
    rw [← Array.forIn_toList]
    refine wpAny_forIn_list _ (fun rest _ s' => s' = s ∧ ∀ e ∈ rest, ∃ k, knd.is k e.key = true) _ ?_ ?_ _ _ ⟨rfl, fun e he => ?_⟩
    · rintro e rest b s' ⟨rfl, hr⟩
      obtain ⟨k, hk⟩ := hr e List.mem_cons_self
      have hb := knd.byValue k _ hk
      cases hek : e.key with
      | ref a => rw [hek] at hb; cases hb
      | _ => exact wpAny_pure ⟨rfl, fun e he => hr e (List.mem_cons_of_mem _ he)⟩
    · rintro b s' ⟨rfl, _⟩
      exact turn
    · obtain ⟨k, hk, _⟩ := hko e (Array.mem_toList_iff.mp he)
      exact ⟨k, hk⟩
  · exact turn
end
end Cs
namespace Cs
open PySem PySem.Spec PyProof.Rows L2
open Sem (wp)
/-- {**e, k: v}: d the new dict -/
def tDMerge (te tk tv : TE) : TE := fun σ H Q => ∀ d, H d = none → te σ (upd H d (.dK [])) fun x H1 => ∃ (a : Addr) (kvs : List (Key × V)), x = .ref a ∧ a ≠ d ∧ H1 a = some (.dK kvs) ∧ H1 d = some (.dK []) ∧ kvs.length < sizeLine ∧
  ∀ b, upd H1 d (.dK kvs) b = none → tk σ (upd (upd H1 d (.dK kvs)) b (.dK [])) fun y H3 => tv σ H3 fun z H4 => ∃ k : Key, y = kV k ∧ b ≠ d ∧ H4 b = some (.dK []) ∧ H4 d = some (.dK kvs) ∧
    Q (.ref d) (upd (upd H4 b (.dK [(k, z)])) d (.dK (putK kvs k z)))
section
variable {X : Cx}
theorem dk_merge {pins : List (Addr × Obj)} {σ : L2.St} {H : Hp} {s : Shared} {A : Around} {E : Value → Shared → Prop} {d o : Addr} {kvs more : List (Key × V)} {Q : Unit → Shared → Prop} (I : Inv X pins σ H s) (hdo : d ≠ o) (e : H d = some (.dK kvs)) (eo : H o = some (.dK more))
    (hz : kvs.length + more.length ≤ sizeLine) (h : ∀ s', (∃ vs rs : List (Key × Value), KV kvs vs ∧ KV more rs ∧ (rs.map (·.1)).Nodup) → (∀ kvs', (∀ vs rs : List (Key × Value), KV kvs vs → KV more rs → (rs.map (·.1)).Nodup → KV kvs' (merged vs rs)) → kvs'.length ≤ sizeLine → Inv X pins σ (upd H d (.dK kvs')) s') → Q () s') :
    wpAny (model X.prog X.w) A (mergeMapping d (.ref o) false) Q E s := by
  obtain ⟨z, hd, vs, rel, dd⟩ := dk_of I.hok e
  obtain ⟨z2, hd2, rs, rel2, dd2⟩ := dk_of I.hok eo
  have nd : (rs.map (·.1)).Nodup := let ⟨_, _, _, _, _, _, _, _, hn⟩ := dd2; hn
  refine mergeMapping_ok hdo hd2 dd dd2 (by rw [← rel.length, ← rel2.length]; exact hz) fun h' dd' hs => h _ ⟨vs, rs, rel, rel2, nd⟩ fun kvs' hk hl => ?_
  have he : ∃ q, h'.get? d = some q := let ⟨q, _, _, hq, _⟩ := dd'; ⟨q, hq⟩
  exact d_write (t' := s.toks) I (by rw [e]; exact True.intro) hs he (dk_new hl hd (hk vs rs rel rel2 nd) dd')
theorem pe_dmerge {e k v : Expr} {te tk tv : TE} {pos : Pos} (hu : X.A.units + 1 < cLine) (he : PE X e te) (hk : PE X k tk) (hv : PE X v tv) : PE X (.Dict [none, some k] [e, v] pos) (tDMerge te tk tv) := by
  refine ⟨fun pins s σ H Q I h => ?_⟩
  rw [arm_eval_Dict]
  refine wpAny_bind (wpAny_standAt ?_)
  show wpAny _ _ (dictDisplay [(none, do let x ← eval e X.env; standAt pos; pure x), (some (eval k X.env), do let x ← eval v X.env; standAt pos; pure x)]) _ _ s
  unfold dictDisplay
  refine wpAny_bind ?_
  simp only [List.forIn_cons, List.forIn_nil, List.isEmpty_nil, if_true, pure_bind, bind_assoc]
  refine wpAny_bind (wpAny_alloc ?_)
  generalize hd0 : s.heap.objs.size = d
  generalize hs1 : ({ s with heap := s.heap.push { cls := .type "dict", data := .dict #[] } } : Shared) = s1
  have hdn : H d = none := I.hok.fresh (Nat.le_of_eq hd0)
  have I1 : Inv X pins σ (upd H d (.dK [])) s1 := by
    rw [← hs1, ← hd0]
    exact I.laid (a := s.heap.objs.size) (o := .dK []) (t' := s.toks) (fun _ _ q => Heap.get?_push_of_some _ q) (Nat.le_refl _) (dk_empty s.heap I.big)
  refine wpAny_bind (wpAny_holding (wpAny_bind (thn (he.run pins s1 σ _ _ I1 (h d hdn)) fun u s2 ⟨x, H1, I2, rx, a, kvs, ex, nad, ea, ed, hlen, q⟩ => wpAny_bind (wpAny_standAt (wpAny_pure ?_)))))
  subst ex
  obtain rfl : u = Value.ref a := rx
  refine wpAny_bind (wpAny_onRaise (wpAny_tryCatch (wpAny_onRaise (wpAny_holding (dk_merge I2 (Ne.symm nad) ed ea (by rw [List.length_nil]; omega) fun s3 _ mk => ?_)))))
  have I3 : Inv X pins σ (upd H1 d (.dK kvs)) s3 := mk kvs (fun vs rs k1 k2 nd => by
    cases k1
    rw [merged_nil_of_nodup rs nd]
    exact k2) (Nat.le_of_lt hlen)
  refine wpAny_bind ?_
  rw [if_neg (by simp)]
  refine wpAny_pure ?_
  refine wpAny_pure ?_
  refine wpAny_bind ?_
  rw [if_neg (by simp)]
  show wpAny _ _ (do
    let sub ← holding [Value.ref d] (subDict ([] ++ [(eval k X.env, do let x ← eval v X.env; standAt pos; pure x)]))
    (holding [Value.ref d, Value.ref sub] (mergeMapping d (Value.ref sub) false)).onRaise fun x => do
      let _ ← holding [Value.ref d, x] (runValue (Code.builtin "proto.let_go" { }))
      pure ()
    pure (some d)) _ _ s3
  rw [List.nil_append]
  refine wpAny_bind (wpAny_holding ?_)
  unfold subDict
  refine wpAny_bind (wpAny_alloc ?_)
  generalize hb0 : s3.heap.objs.size = b
  generalize hs4 : ({ s3 with heap := s3.heap.push { cls := .type "dict", data := .dict #[] } } : Shared) = s4
  have hbn : upd H1 d (.dK kvs) b = none := I3.hok.fresh (Nat.le_of_eq hb0)
  have I4 : Inv X pins σ (upd (upd H1 d (.dK kvs)) b (.dK [])) s4 := by
    rw [← hs4, ← hb0]
    exact I3.laid (a := s3.heap.objs.size) (o := .dK []) (t' := s3.toks) (fun _ _ q => Heap.get?_push_of_some _ q) (Nat.le_refl _) (dk_empty s3.heap I3.big)
  refine wpAny_bind (wpAny_holding ?_)
  rw [if_pos (by simp)]
  refine wpAny_bind ?_
  refine evalPairs_cons (thn (hk.run pins s4 σ _ _ I4 (q b hbn)) fun ku s5 ⟨y, H3, I5, ry, q3⟩ => wpAny_bind (thn (hv.run pins s5 σ _ _ I5 q3) fun vu s6 ⟨z, H4, I6, rz, kk, ey, nbd, eb4, ed4, q4⟩ => wpAny_bind (wpAny_standAt (wpAny_pure (evalPairs_nil ?_)))))
  subst ey
  refine wpAny_holding ?_
  obtain ⟨zb, hbs, vs, relb, ddb⟩ := dk_of I6.hok eb4
  cases relb
  rw [List.forIn_cons]
  refine wpAny_bind (wpAny_bind ?_)
  show wpAny _ _ (do dictSet b ku vu; pure (ForInStep.yield PUnit.unit)) _ _ s6
  refine wpAny_bind (wpAny_dictSet_pairs (hsz := Nat.zero_le _) (kV_is ry) ddb fun h' dd' hs' => wpAny_pure ?_)
  dsimp only
  rw [List.forIn_nil]
  refine wpAny_pure (wpAny_pure (wpAny_pure ?_))
  generalize hs7 : ({ s6 with heap := h', toks := s6.toks + 1 } : Shared) = s7
  have I7 : Inv X pins σ (upd H4 b (.dK [(kk, z)])) s7 := by
    rw [← hs7]
    have hex : ∃ q, h'.get? b = some q := let ⟨q, _, _, hq, _⟩ := dd'; ⟨q, hq⟩
    exact d_write I6 (by rw [eb4]; exact True.intro) hs' hex (dk_new (by show 1 ≤ sizeLine; decide) hbs (KV.put (kvs := []) (vs := []) .nil kk rz) dd')
  have ed7 : (upd H4 b (.dK [(kk, z)])) d = some (.dK kvs) := by rw [upd_ne (Ne.symm nbd)]; exact ed4
  refine wpAny_bind (wpAny_onRaise (wpAny_holding (dk_merge I7 (Ne.symm nbd) ed7 upd_same (by rw [List.length_singleton]; omega) fun s8 _ mk => ?_)))
  have I8 : Inv X pins σ (upd (upd H4 b (.dK [(kk, z)])) d (.dK (putK kvs kk z))) s8 := mk _ (fun vs rs k1 k2 nd => KV.merge k2 k1) (by have := length_putK kvs kk z; omega)
  exact wpAny_pure (wpAny_pure ⟨.ref d, _, I8, rfl, q4⟩)
/-- dict(d) -/
theorem cr_dictOf : CallR X (.type "dict") (fun xs H Q => ∃ (a : Addr) (kvs : List (Key × V)), xs = [.ref a] ∧ H a = some (.dK kvs) ∧ ∀ d, H d = none → Q (.ref d) (upd H d (.dK kvs))) := by
  intro pins s σ H xs us Q I r h
  obtain ⟨a, kvs, rfl, ha, q⟩ := h
  obtain ⟨u, rfl, rx⟩ := vals1 r
  cases rx
  obtain ⟨z, hd, vs, rel, dd⟩ := dk_of I.hok ha
  refine kt_call_dict hd dd (by rw [← rel.length]; exact z) fun h' dd' hs => ?_
  have hn : H s.heap.objs.size = none := I.hok.fresh (Nat.le_refl _)
  have I1 : Inv X pins σ (upd H s.heap.objs.size (.dK [])) { s with heap := s.heap.push { cls := .type "dict", data := .dict #[] } } :=
    I.laid (a := s.heap.objs.size) (o := .dK []) (t' := s.toks) (fun _ _ q => Heap.get?_push_of_some _ q) (Nat.le_refl _) (dk_empty s.heap I.big)
  have hex : ∃ q, h'.get? s.heap.objs.size = some q := let ⟨q, _, _, hq, _⟩ := dd'; ⟨q, hq⟩
  have I2 : Inv X pins σ (upd (upd H s.heap.objs.size (.dK [])) s.heap.objs.size (.dK kvs)) { s with heap := h' } :=
    d_write (s := { s with heap := s.heap.push { cls := .type "dict", data := .dict #[] } }) (t' := s.toks) I1 (by rw [upd_same]; exact True.intro) hs hex (dk_new z (dk_of I1.hok upd_same).2.1 rel dd')
  have e2 : upd (upd H s.heap.objs.size (.dK [])) s.heap.objs.size (.dK kvs) = upd H s.heap.objs.size (.dK kvs) := by
    funext c
    by_cases e : c = s.heap.objs.size
    · subst e; rw [upd_same, upd_same]
    · rw [upd_ne e, upd_ne e, upd_ne e]
  rw [e2] at I2
  exact ⟨.ref _, _, I2, rfl, q _ hn⟩
end
end Cs

namespace Cs
open PySem PySem.Spec PyProof.Rows L2 GenW
open Sem (wp)
/-! ### generator expressions of several fors -/
theorem compTurn_nest {elt tg iter : Expr} {ifs : List Expr} {gens : List Comprehension} {scope : Scope} {pos : Pos} {d : Nat} {it acc : Value} {env : Env} (hd : gens[d]? = some ⟨tg, iter, ifs, 0⟩) :
    compTurn (.GeneratorExp elt gens scope pos) d it acc env = (do
      standAt iter.pos
      match ← pyNext it with
      | none => pure (.done .next)
      | some v =>
        letOwnedTupleGo tg it v
        assign tg env v
        let mut ok := true
        for c in ifs do
          if ok then ok ← isTrue c env (eval c env)
        if ok then
          match gens[d + 1]? with
          | some g' =>
            let x ← eval g'.iter env
            standAt g'.iter.pos
            let x ← if g'.is_async != 0 then foldedIterable g'.iter x else foldedSetIterable g'.iter env x
            let _ ← runOwn (.compStart (.GeneratorExp elt gens scope pos) (d + 1) (← holding [x] (if g'.is_async != 0 then asyncIter x else pyIter x)) acc env) env
          | none => (do let v ← eval elt env; standAt elt.pos; let _ ← yieldOut env v)
        again (.compLoop (.GeneratorExp elt gens scope pos) d it acc env)) := by
  unfold compTurn
  simp only [hd]
  rfl
/-- the frames around depth d -/
inductive FrN (e : Expr) (env : Env) : Nat → List Frame → Prop
  | nil : FrN e env 0 []
  | cons {d : Nat} {fs : List Frame} {k : Result → Sem PySem.Fin} {l kp : List Value} {it acc : Value} {p : Pos} : FrN e env d fs → FrN e env (d + 1) (.ret k none false l (.compLoop e d it acc env) p kp :: fs)
section
variable {elt : Expr} {gens : List Comprehension} {scope : Scope} {pos : Pos} {env : Env} {d : Nat} {fs : List Frame} {Aw : Around} {it acc : Value}
theorem FrN.split {e : Expr} : ∀ {d : Nat} {fs : List Frame}, FrN e env d fs → splitAtGen fs = none ∧ fs.any Frame.guarded = false
  | _, _, .nil => ⟨rfl, rfl⟩
  | _, _, .cons h => by
    obtain ⟨h1, h2⟩ := h.split
    refine ⟨?_, ?_⟩
    · show (splitAtGen _).map _ = none
      rw [h1]; rfl
    · show (false || _) = false
      rw [h2]; rfl
theorem FrN.sums : ∀ {d : Nat} {fs : List Frame}, FrN (.GeneratorExp elt gens scope pos) env d fs → (∀ x, marksOver fs x = x) ∧ frameCount (fs.map Frame.where_) = (if d = 0 then 0 else 1) ∧ envsOf (fs.map Frame.where_) = (if d = 0 then [] else [env]) ∧ guardsOf (fs.map Frame.where_) = [] ∧ unitsOf (fs.map Frame.where_) = (if d = 0 then 0 else 3)
  | _, _, .nil => ⟨fun _ => rfl, rfl, rfl, rfl, rfl⟩
  | _, _, .cons (d := d) (fs := fs) (it := it) (acc := acc) (p := p) h => by
    obtain ⟨h1, h2, h3, h4, h5⟩ := h.sums
    refine ⟨fun x => ?_, ?_, ?_, ?_, ?_⟩
    · unfold marksOver
      rw [List.foldr_cons]
      have e : fs.foldr Frame.marks x = x := h1 x
      rw [e]
      rfl
    · show frameCount ((Code.compLoop _ d it acc env, p) :: fs.map Frame.where_) = _
      rw [frameCount_cons, h2]
      cases d <;> rfl
    · show envsOf ((Code.compLoop _ d it acc env, p) :: fs.map Frame.where_) = _
      rw [envsOf_cons, h3]
      cases d <;> rfl
    · show guardsOf ((Code.compLoop _ d it acc env, p) :: fs.map Frame.where_) = _
      rw [guardsOf_cons, h4]
      rfl
    · show unitsOf ((Code.compLoop _ d it acc env, p) :: fs.map Frame.where_) = _
      rw [unitsOf_cons, h5]
      cases d <;> rfl
theorem FrN.over (h : FrN (.GeneratorExp elt gens scope pos) env d fs) : Aw.over (.compLoop (.GeneratorExp elt gens scope pos) d it acc env) fs = Aw.deeper env ∧ Aw.over (.compStart (.GeneratorExp elt gens scope pos) d it acc env) fs = Aw.deeper env := by
  obtain ⟨h1, h2, h3, h4, h5⟩ := h.sums
  unfold Around.over
  rw [h1, h2, h3, h4, h5]
  cases d <;> (constructor <;> first | rfl | (obtain ⟨hd, dd, fr, gs, u⟩ := Aw; simp [Around.deeper, pushEnvs, pushGuards, Code.envs, Code.env?, Code.isFrame, Code.guards, Code.isGuard, Code.weight, Code.frames, Code.isCreation, Code.isCaller, Code.cUnits]))
end
end Cs
namespace Cs
open PySem PySem.Spec PyProof.Rows L2 GenW
open Sem (wp)
/-- a clause's reading: what it walks, its target, its tests, the slots that it and the inner ones assign -/
abbrev ClR := TI × TG × L2.TT × List Nat
inductive Cls' (Y : Cx) : List Nat → List Comprehension → List ClR → Prop
  | nil {us : List Nat} : Cls' Y us [] []
  | cons {tg iter : Expr} {ifs : List Expr} {wi : TI} {g : TG} {tt : L2.TT} {us vs : List Nat} {rest : List Comprehension} {rd : List ClR} : (∀ v ∈ vs, v ∈ us) → PI Y tg iter wi → PG Y tg g → PTs Y ifs tt → (∀ env x, foldedSetIterable iter env x = pure x) → Cls' Y vs rest rd → Cls' Y us (⟨tg, iter, ifs, 0⟩ :: rest) ((wi, g, tt, vs) :: rd)
/-- the reading: m bounds what is still handed out -/
def GNest (E : Eat) (te : TE) : List ClR → L2.St → Nat → List V → Hp → (Nat → List V → Hp → Prop) → Prop
  | [], σ, m, ys, H, K => te σ H fun y H' => ∃ m', m' < m ∧ E ys y H' (K m' (ys ++ [y]) H')
  | (wi, g, tt, vs) :: r, σ, m, ys, H, K => wi σ H fun J H1 => ∃ W : Nat → Nat → List V → Hp → Prop, W 0 m ys H1 ∧ ∀ i m ys H, W i m ys H → (J.stop i H ∧ K m ys H) ∨
      (J.go i H ∧ ∀ x H', J.yld i H x H' → g x (wipe σ vs) H' fun σ2 H2 => wipe σ2 vs = wipe σ vs ∧ tt σ2 H2 fun b H3 =>
        if b = true then ∃ m1, m1 < m ∧ GNest E te r σ2 m1 ys H3 fun m' ys' H' => m' ≤ m1 ∧ W (i + 1) m' ys' H' else ∃ m', m' < m ∧ W (i + 1) m' ys H3)
/-- a turn of the loop at hand -/
def GTurnN (E : Eat) (te : TE) (J : It) (g : TG) (tt : L2.TT) (vs : List Nat) (r : List ClR) (σ0 : L2.St) (K : Nat → List V → Hp → Prop) (W : Nat → Nat → List V → Hp → Prop) : Prop :=
  ∀ i m ys H, W i m ys H → (J.stop i H ∧ K m ys H) ∨ (J.go i H ∧ ∀ x H', J.yld i H x H' → g x σ0 H' fun σ2 H2 => wipe σ2 vs = σ0 ∧ tt σ2 H2 fun b H3 =>
    if b = true then ∃ m1, m1 < m ∧ GNest E te r σ2 m1 ys H3 fun m' ys' H' => m' ≤ m1 ∧ W (i + 1) m' ys' H' else ∃ m', m' < m ∧ W (i + 1) m' ys H3)
theorem den_start {P : Program} {w : World} {e : Expr} {d : Nat} {it acc : Value} {env : Env} : ∃ hR, (model P w).den (.compStart e d it acc env) = (compStart e d it acc env).onRaise hR := by
  show ∃ hR, (if (Code.compStart e d it acc env).isFrame = true then (compStart e d it acc env).onRaise (leaving env) else (compStart e d it acc env).onRaise _) = _
  split
  · exact ⟨_, rfl⟩
  · exact ⟨_, rfl⟩
theorem den_loop {P : Program} {w : World} {e : Expr} {d : Nat} {it acc : Value} {env : Env} : ∃ hR, (model P w).den (.compLoop e d it acc env) = (compTurn e d it acc env).onRaise hR := by
  show ∃ hR, (if (Code.compLoop e d it acc env).isFrame = true then (compTurn e d it acc env).onRaise (leaving env) else (compTurn e d it acc env).onRaise _) = _
  split
  · exact ⟨_, rfl⟩
  · exact ⟨_, rfl⟩
theorem seg_startN {P : Program} {w : World} {Aw : Around} {elt tg iter : Expr} {ifs : List Expr} {gens : List Comprehension} {scope : Scope} {pos : Pos} {it : Addr} {cenv : Env} {R : GenEnd} {Y : Protocol} {n d : Nat} {s₀ s : Shared} {K : PySem.W.Frag} {J : It} {fp : List Addr} {tn : Nat → Heap → Prop} {fs : List Frame}
    (hd : gens[d]? = some ⟨tg, iter, ifs, 0⟩) (T : Turn P w K tg J fp it tn) (st : tn 0 s.heap)
    (loop : Seg (model P w) Aw R Y n s₀ (.compLoop (.GeneratorExp elt gens scope pos) d (.ref it) .none cenv) ((model P w).den (.compLoop (.GeneratorExp elt gens scope pos) d (.ref it) .none cenv)) fs s) :
    Seg (model P w) Aw R Y n s₀ (.compStart (.GeneratorExp elt gens scope pos) d (.ref it) .none cenv) ((model P w).den (.compStart (.GeneratorExp elt gens scope pos) d (.ref it) .none cenv)) fs s := by
  have hq : (Code.compLoop (.GeneratorExp elt gens scope pos) d (.ref it) .none cenv).quiet = true := rfl
  obtain ⟨hR, eR⟩ := den_start (P := P) (w := w) (e := .GeneratorExp elt gens scope pos) (d := d) (it := .ref it) (acc := .none) (env := cenv)
  rw [eR]
  unfold compStart
  have hcl : (clausesOf (.GeneratorExp elt gens scope pos))[d]? = some ⟨tg, iter, ifs, 0⟩ := hd
  rw [Sem.onRaise_eq_wrap, hcl]
  show Seg _ Aw _ _ _ s₀ _ ((ask >>= _).wrap _ _ _ _) fs s
  refine seg_bind_wrap (wpAny_askSetting ?_)
  split
  · exact seg_again hq loop
  · refine seg_bind_wrap (wpAny_rule ?_)
    show Seg _ Aw _ _ _ s₀ _ ((standAt iter.pos >>= _).wrap _ _ _ _) fs s
    exact seg_bind_wrap (wpAny_standAt (seg_bind_wrap (T.self _ 0 s _ _ st (seg_again hq loop))))
section
variable {X Y : Cx} {Aw : Around} {s5 : Shared} {H5 : Hp} {a : Addr} {g0 : Nat} {go : Obj} {S : Option Addr} {CO : List V → Obj → Prop} {E : Eat} {Qe : List V → Hp → Prop} {elt : Expr} {gens : List Comprehension} {scope : Scope} {pos : Pos} {env : Env} {fp0 : List Addr}
/-- what stands around the loops: the run's context Y -/
structure NCx (X Y : Cx) (Aw : Around) (s5 : Shared) (H5 : Hp) (a : Addr) (g0 : Nat) (S : Option Addr) (CO : List V → Obj → Prop) (env : Env) (fp0 : List Addr) : Prop where
  co : env.scope.isCoroutine = false
  eP : Y.prog = X.prog
  eW : Y.w = X.w
  eK : Y.K = X.K
  eE : Y.env = env
  eA : Y.A = Aw.deeper env
  calm : Y.calm = true
  xf : ∀ e s', ¬ Y.xe e s'
  out : ∀ {pp : List (Addr × Obj)} {σ : L2.St} {H : Hp} {s : Shared} {ys : List V} {ip : List (Addr × Obj)}, PinS S CO ys pp → Inv Y (pp ++ ip) σ H s → Out X S CO a g0 s5 H5 fp0 ys H s
  hS : ∀ b, S = some b → Apart Y b ∧ ∀ q ∈ Y.pn, q.1 ≠ b
/-- the rest of a turn whose tests hold -/
def afterT (elt : Expr) (gens : List Comprehension) (scope : Scope) (pos : Pos) (d : Nat) (it : Value) (env : Env) : Sem Unit :=
  match gens[d + 1]? with
  | some g' => do
    let x ← eval g'.iter env
    standAt g'.iter.pos
    let x ← foldedSetIterable g'.iter env x
    let i2 ← holding [x] (pyIter x)
    let _ ← runOwn (.compStart (.GeneratorExp elt gens scope pos) (d + 1) i2 .none env) env
  | none => do
    let v ← eval elt env
    standAt elt.pos
    let _ ← yieldOut env v
theorem compTurn_after {elt tg iter : Expr} {ifs : List Expr} {gens : List Comprehension} {scope : Scope} {pos : Pos} {d : Nat} {it : Value} {env : Env} (hd : gens[d]? = some ⟨tg, iter, ifs, 0⟩) (hn : ∀ g', gens[d + 1]? = some g' → g'.is_async = 0) :
    compTurn (.GeneratorExp elt gens scope pos) d it .none env = (do
      standAt iter.pos
      let r ← pyNext it
      match r with
      | none => pure (.done .next)
      | some v => do
        letOwnedTupleGo tg it v
        assign tg env v
        let ok ← forIn ifs true fun c r => if r = true then do let ok ← isTrue c env (eval c env); pure (ForInStep.yield ok) else pure (ForInStep.yield r)
        if ok = true then do
          afterT elt gens scope pos d it env
          again (.compLoop (.GeneratorExp elt gens scope pos) d it .none env)
        else again (.compLoop (.GeneratorExp elt gens scope pos) d it .none env)) := by
  rw [compTurn_nest hd]
  refine congrArg (standAt iter.pos >>= ·) (funext fun _ => congrArg (pyNext it >>= ·) (funext fun r => ?_))
  cases r with
  | none => rfl
  | some v =>
    refine congrArg (letOwnedTupleGo tg it v >>= ·) (funext fun _ => congrArg (assign tg env v >>= ·) (funext fun _ => congrArg (_ >>= ·) (funext fun ok => ?_)))
    cases ok with
    | false => rfl
    | true =>
      simp only [if_true]
      unfold afterT
      cases hg : gens[d + 1]? with
      | none => simp only [bind_assoc, pure_bind]
      | some g' =>
        have h0 := hn g' hg
        simp only [h0, bind_assoc, pure_bind]
        rfl
end
end Cs
namespace Cs
open PySem PySem.Spec PyProof.Rows L2 GenW
open Sem (wp)
section
variable {X Y : Cx} {Aw : Around} {s5 : Shared} {H5 : Hp} {a : Addr} {g0 : Nat} {S : Option Addr} {CO : List V → Obj → Prop} {E : Eat} {Qe : List V → Hp → Prop} {elt : Expr} {gens : List Comprehension} {scope : Scope} {pos : Pos} {env : Env} {fp0 : List Addr} {te : TE}
abbrev SegN (X : Cx) (Aw : Around) (s5 : Shared) (H5 : Hp) (a : Addr) (g0 : Nat) (S : Option Addr) (CO : List V → Obj → Prop) (E : Eat) (Qe : List V → Hp → Prop) (fp0 : List Addr) := Seg (model X.prog X.w) Aw (RG X S CO Qe a g0 s5 H5 fp0) (YG X S CO E a g0 s5 H5 fp0)
theorem nest_core (N : NCx X Y Aw s5 H5 a g0 S CO env fp0) {rd : List ClR} {tg iter : Expr} {ifs : List Expr} {d : Nat} (hgd : gens[d]? = some ⟨tg, iter, ifs, 0⟩) (hn : ∀ g', gens[d + 1]? = some g' → g'.is_async = 0)
    {J : It} {it : Addr} {fp : List Addr} {tn : Nat → Heap → Prop} {g : TG} {tt : L2.TT} {vs : List Nat} (T : Turn X.prog X.w X.K tg J fp it tn) (pg : PG Y tg g) (pt : PTs Y ifs tt) {σ0 : L2.St} (hσ : wipe σ0 vs = σ0) {fs : List Frame} (hfs : FrN (.GeneratorExp elt gens scope pos) env d fs)
    {ip : List (Addr × Obj)} {H00 : Hp} (hf0 : ∀ b ∈ fp, FpOk Y ip H00 b) (hSf : ∀ b, S = some b → b ∉ fp ∧ ∀ q ∈ ip, q.1 ≠ b) {K : Nat → List V → Hp → Prop} {W : Nat → Nat → List V → Hp → Prop} (turn : GTurnN E te J g tt vs rd σ0 K W)
    (branch : ∀ (m1 n : Nat) (ys : List V) (s₀ s : Shared) (H : Hp) (p : List (Addr × Obj)) (σ8 : L2.St) (ip' : List (Addr × Obj)) (hR : Value → Sem PySem.Fin) (Kc : Nat → List V → Hp → Prop), m1 < n → GNest E te rd σ8 m1 ys H Kc → PinS S CO ys p → (∀ q ∈ p, s₀.heap.get? q.1 = some q.2) → Inv Y (p ++ ip') σ8 H s → (∀ b, S = some b → ∀ q ∈ ip', q.1 ≠ b) →
      (∀ (m' n' : Nat) (ys' : List V) (s₀' s' : Shared) (H' : Hp) (p' : List (Addr × Obj)) (σ' : L2.St), m' < n' → Kc m' ys' H' → PinS S CO ys' p' → (∀ q ∈ p', s₀'.heap.get? q.1 = some q.2) → wipe σ' vs = σ0 → Inv Y (p' ++ ip') σ' H' s' →
        SegN X Aw s5 H5 a g0 S CO E Qe fp0 n' s₀' (.compLoop (.GeneratorExp elt gens scope pos) d (.ref it) .none env) (.pure (.again (.compLoop (.GeneratorExp elt gens scope pos) d (.ref it) .none env))) fs s') → wipe σ8 vs = σ0 →
      SegN X Aw s5 H5 a g0 S CO E Qe fp0 n s₀ (.compLoop (.GeneratorExp elt gens scope pos) d (.ref it) .none env) ((afterT elt gens scope pos d (.ref it) env >>= fun _ => again (.compLoop (.GeneratorExp elt gens scope pos) d (.ref it) .none env)).wrap Sem.pure hR id id) fs s)
    (cont : ∀ (m n : Nat) (ys : List V) (s₀ s : Shared) (H : Hp) (p : List (Addr × Obj)) (c : Code), m < n → K m ys H → PinS S CO ys p → (∀ q ∈ p, s₀.heap.get? q.1 = some q.2) → Inv Y (p ++ ip) σ0 H s → SegN X Aw s5 H5 a g0 S CO E Qe fp0 n s₀ c (leafOf (.ok .next)) fs s) :
    ∀ (m n i : Nat) (ys : List V) (s₀ s : Shared) (H : Hp) (p : List (Addr × Obj)), m < n → W i m ys H → PinS S CO ys p → (∀ q ∈ p, s₀.heap.get? q.1 = some q.2) → Inv Y (p ++ ip) σ0 H s → tn i s.heap → (∀ b ∈ fp, H b = none) →
      SegN X Aw s5 H5 a g0 S CO E Qe fp0 n s₀ (.compLoop (.GeneratorExp elt gens scope pos) d (.ref it) .none env) ((model X.prog X.w).den (.compLoop (.GeneratorExp elt gens scope pos) d (.ref it) .none env)) fs s := by
  have eover : Aw.over (.compLoop (.GeneratorExp elt gens scope pos) d (.ref it) .none env) fs = Y.A := by rw [N.eA]; exact hfs.over.1
  intro m
  induction m using Nat.strongRecOn with
  | ind m ih =>
    intro n i ys s₀ s H p hmn w hp hq0 I st nf
    have hpfp : ∀ {ys' : List V} {pp : List (Addr × Obj)}, PinS S CO ys' pp → ∀ q ∈ pp, q.1 ∉ fp := fun {ys' pp} hpp q hq => by
      cases hSe : S with
      | none => rw [hSe] at hpp; rw [show pp = [] from hpp] at hq; cases hq
      | some b =>
        rw [hSe] at hpp
        obtain ⟨o, _, _, rfl⟩ := hpp
        rw [List.mem_singleton.mp hq]
        exact (hSf b hSe).1
    have stat : ∀ {H' : Hp}, (∀ b ∈ fp, H' b = none) → ∀ b ∈ fp, FpOk Y (p ++ ip) H' b := fun {H'} hn' b hb => by
      obtain ⟨_, f1, f2, f3, f4, f5⟩ := hf0 b hb
      refine ⟨hn' b hb, f1, f2, f3, f4, fun q hq => ?_⟩
      rcases List.mem_append.mp hq with z | z
      · exact f5 q (List.mem_append_left _ z)
      · rcases List.mem_append.mp z with z | z
        · exact fun e => hpfp hp q z (by rw [e]; exact hb)
        · exact f5 q (List.mem_append_right _ z)
    obtain ⟨hR0, eR⟩ := den_loop (P := X.prog) (w := X.w) (e := .GeneratorExp elt gens scope pos) (d := d) (it := .ref it) (acc := .none) (env := env)
    rw [eR, compTurn_after hgd hn, Sem.onRaise_eq_wrap]
    refine seg_bind_wrap (wpAny_standAt ?_)
    rcases turn i m ys H w with ⟨stop, qq⟩ | ⟨go', step⟩
    · have td := T.done Y N.eP N.eW N.eK N.calm i (p ++ ip) s _ H (fun _ _ => False) I (stat nf) st stop
      refine seg_bind_wrap ?_
      rw [eover]
      refine thnF td fun r s6 ⟨hr, I6⟩ => ?_
      subst hr
      exact cont m n ys s₀ s6 H p _ hmn qq hp hq0 I6
    · have ti := T.item Y N.eP N.eW N.eK N.calm i (p ++ ip) s _ H (fun _ _ => False) I (stat nf) st go'
      refine seg_bind_wrap ?_
      rw [eover]
      refine thnF ti fun r s6 ⟨u, hr, h6⟩ => ?_
      subst hr
      refine seg_bind_wrap ?_
      rw [eover]
      refine thnF h6 fun _ s7 ⟨x, H7, I7, r7, y7, st7, n7⟩ => ?_
      have I7' := I7.pinned (stat n7) (T.obj _ _ st7)
      have pgr := pg.run _ s7 _ H7 x u _ I7' r7 (step x H7 y7)
      rw [N.eP, N.eW, N.eE] at pgr
      refine seg_bind_wrap ?_
      rw [eover]
      refine wpAny_mono pgr (fun _ s8 ⟨σ8, H8, I8, hw8, q8⟩ => ?_) fun e s' z => absurd z (N.xf e s')
      have ptr := pt.run _ s8 σ8 H8 _ I8 q8
      rw [N.eP, N.eW, N.eE] at ptr
      refine seg_bind_wrap ?_
      rw [eover]
      refine wpAny_mono ptr (fun b s9 ⟨H9, I9, q9⟩ => ?_) fun e s' z => absurd z (N.xf e s')
      have I9 : Inv Y (p ++ (ip ++ pinsAt fp s7.heap)) σ8 H9 s9 := by rw [← List.append_assoc]; exact I9
      -- a turn's end
      have fin : ∀ (m' n' : Nat) (ys' : List V) (s₀' s' : Shared) (H' : Hp) (p' : List (Addr × Obj)) (σ' : L2.St), m' < m → m' < n' → W (i + 1) m' ys' H' → PinS S CO ys' p' → (∀ q ∈ p', s₀'.heap.get? q.1 = some q.2) → wipe σ' vs = σ0 → Inv Y (p' ++ (ip ++ pinsAt fp s7.heap)) σ' H' s' →
          SegN X Aw s5 H5 a g0 S CO E Qe fp0 n' s₀' (.compLoop (.GeneratorExp elt gens scope pos) d (.ref it) .none env) (.pure (.again (.compLoop (.GeneratorExp elt gens scope pos) d (.ref it) .none env))) fs s' := by
        intro m' n' ys' s₀' s' H' p' σ' hm' hn' w' hp' hq' hw' I'
        have pin' : ∀ b ∈ fp, ∀ o, s7.heap.get? b = some o → s'.heap.get? b = some o ∧ H' b = none := fun b hb o e =>
          let z := I'.pin (b, o) (List.mem_append_right _ (List.mem_append_right _ (List.mem_append_right _ (mem_pinsAt hb e))))
          ⟨z.1, z.2.1⟩
        have hl : σ0.length = σ'.length := by rw [← hw', wipe_length]
        have I1 : Inv Y (p' ++ ip) σ' H' s' := I'.pins_of fun q hq => I'.pin q (List.mem_append_right _ (by
          rcases List.mem_append.mp hq with z | z
          · exact List.mem_append_left _ z
          · exact List.mem_append_right _ (List.mem_append_left _ z)))
        refine seg_again rfl (ih m' hm' n' (i + 1) ys' s₀' s' H' p' hn' w' hp' hq' (I1.weak hl fun j v e => ?_) (T.keep _ _ _ st7 fun b hb o e => (pin' b hb o e).1) fun b hb => ?_)
        · rw [← hw'] at e
          exact (wipe_some e).1
        · obtain ⟨o, e, _⟩ := T.obj _ _ st7 b hb
          exact (pin' b hb o e).2
      cases b with
      | false =>
        simp only [Bool.false_eq_true, if_false] at q9 ⊢
        obtain ⟨m', hm', w'⟩ := q9
        exact fin m' n ys s₀ s9 H9 p σ8 hm' (by omega) w' hp hq0 hw8 I9
      | true =>
        simp only [if_true] at q9 ⊢
        obtain ⟨m1, hm1, gn⟩ := q9
        refine branch m1 n ys s₀ s9 H9 p σ8 (ip ++ pinsAt fp s7.heap) _ _ (by omega) gn hp hq0 I9 (fun b e q hq => ?_) (fun m' n' ys' s₀' s' H' p' σ' hn' kc hp' hq' hw' I' => ?_) hw8
        · rcases List.mem_append.mp hq with z | z
          · exact (hSf b e).2 q z
          · have := (of_pinsAt z).1
            exact fun e2 => (hSf b e).1 (by rw [← e2]; exact this)
        · exact fin m' n' ys' s₀' s' H' p' σ' (by omega) hn' kc.2 hp' hq' hw' I'
end
end Cs
namespace Cs
open PySem PySem.Spec PyProof.Rows L2 GenW
open Sem (wp)
theorem wipe_get (i : Nat) : ∀ (vs : List Nat) (τ : L2.St), (wipe τ vs)[i]? = if i ∈ vs then (τ[i]?).map fun _ => none else τ[i]? := by
  intro vs
  induction vs with
  | nil => intro τ; simp [wipe]
  | cons v vs ih =>
    intro τ
    unfold wipe
    rw [List.getElem?_set]
    by_cases h : v = i
    · subst h
      simp only [if_true, List.mem_cons, true_or, wipe_length]
      by_cases hl : v < τ.length
      · rw [if_pos hl, List.getElem?_eq_getElem hl]; rfl
      · rw [if_neg hl, List.getElem?_eq_none (by omega)]; rfl
    · rw [if_neg h, ih]
      have : (i ∈ v :: vs) = (i ∈ vs) := by
        rw [List.mem_cons, eq_iff_iff]
        exact ⟨fun z => z.elim (fun e => absurd e.symm h) id, .inr⟩
      simp only [this]
theorem wipe_sub {us vs : List Nat} (h : ∀ v ∈ us, v ∈ vs) (σ : L2.St) : wipe (wipe σ us) vs = wipe σ vs := by
  refine List.ext_getElem? fun i => ?_
  rw [wipe_get, wipe_get, wipe_get]
  by_cases h1 : i ∈ vs
  · rw [if_pos h1, if_pos h1]
    by_cases h2 : i ∈ us
    · rw [if_pos h2, Option.map_map]; rfl
    · rw [if_neg h2]
  · rw [if_neg h1, if_neg h1, if_neg fun z => h1 (h i z)]
section
variable {X Y : Cx} {Aw : Around} {s5 : Shared} {H5 : Hp} {a : Addr} {g0 : Nat} {S : Option Addr} {CO : List V → Obj → Prop} {E : Eat} {Qe : List V → Hp → Prop} {elt : Expr} {gens : List Comprehension} {scope : Scope} {pos : Pos} {env : Env} {fp0 : List Addr} {te : TE}
theorem nest_loop (hE : EatMono E) (N : NCx X Y Aw s5 H5 a g0 S CO env fp0) (pe : PE Y elt te) : ∀ (rest : List Comprehension) (vs : List Nat) (rd : List ClR), Cls' Y vs rest rd → ∀ {tg iter : Expr} {ifs : List Expr} {d : Nat} (hgd : gens[d]? = some ⟨tg, iter, ifs, 0⟩) (hrest : gens.drop (d + 1) = rest)
    {J : It} {it : Addr} {fp : List Addr} {tn : Nat → Heap → Prop} {g : TG} {tt : L2.TT} (T : Turn X.prog X.w X.K tg J fp it tn) (pg : PG Y tg g) (pt : PTs Y ifs tt) {σ0 : L2.St} (hσ : wipe σ0 vs = σ0) {fs : List Frame} (hfs : FrN (.GeneratorExp elt gens scope pos) env d fs)
    {ip : List (Addr × Obj)} {H00 : Hp} (hf0 : ∀ b ∈ fp, FpOk Y ip H00 b) (hSf : ∀ b, S = some b → b ∉ fp ∧ ∀ q ∈ ip, q.1 ≠ b) {K : Nat → List V → Hp → Prop} {W : Nat → Nat → List V → Hp → Prop} (turn : GTurnN E te J g tt vs rd σ0 K W)
    (cont : ∀ (m n : Nat) (ys : List V) (s₀ s : Shared) (H : Hp) (p : List (Addr × Obj)) (c : Code), m < n → K m ys H → PinS S CO ys p → (∀ q ∈ p, s₀.heap.get? q.1 = some q.2) → Inv Y (p ++ ip) σ0 H s → SegN X Aw s5 H5 a g0 S CO E Qe fp0 n s₀ c (leafOf (.ok .next)) fs s) (m n i : Nat) (ys : List V) (s₀ s : Shared) (H : Hp) (p : List (Addr × Obj)), m < n → W i m ys H → PinS S CO ys p → (∀ q ∈ p, s₀.heap.get? q.1 = some q.2) → Inv Y (p ++ ip) σ0 H s → tn i s.heap → (∀ b ∈ fp, H b = none) →
      SegN X Aw s5 H5 a g0 S CO E Qe fp0 n s₀ (.compLoop (.GeneratorExp elt gens scope pos) d (.ref it) .none env) ((model X.prog X.w).den (.compLoop (.GeneratorExp elt gens scope pos) d (.ref it) .none env)) fs s := by
  intro rest
  induction rest with
  | nil =>
    intro vs rd hrd tg iter ifs d hgd hrest J it fp tn g tt T pg pt σ0 hσ fs hfs ip H00 hf0 hSf K W turn cont
    cases hrd
    have hnext : gens[d + 1]? = none := by
      have := congrArg (fun l => l[0]?) hrest
      simpa using this
    refine nest_core N hgd (fun g' e => by rw [hnext] at e; cases e) T pg pt hσ hfs hf0 hSf turn (fun m1 n ys s₀ s H p σ8 ip' hR Kc hmn gn hp hq0 I hSi kont hw8 => ?_) cont
    have eover : Aw.over (.compLoop (.GeneratorExp elt gens scope pos) d (.ref it) .none env) fs = Y.A := by rw [N.eA]; exact hfs.over.1
    unfold afterT
    rw [hnext]
    have hy : ∀ v, yieldOut env v = yieldValue v := fun v => by
      simp only [yieldOut, N.co, Bool.false_eq_true, if_false]
    simp only [hy, bind_assoc]
    have per := pe.run _ s σ8 H _ I gn
    rw [N.eP, N.eW, N.eE] at per
    refine seg_bind_wrap ?_
    rw [eover]
    refine wpAny_mono per (fun z s10 ⟨y, H10, I10, r10, m', hm', q10⟩ => ?_) fun e s' z => absurd z (N.xf e s')
    refine seg_bind_wrap (wpAny_standAt ?_)
    obtain ⟨k, rfl⟩ : ∃ k, n = k + 1 := ⟨n - 1, by omega⟩
    have I0 : Inv Y ip' σ8 H10 s10 := I10.pins_of fun q hq => I10.pin q (List.mem_append_right _ (List.mem_append_right _ hq))
    have same : ∀ b o, S = some b → s₀.heap.get? b = some o → s10.heap.get? b = some o := fun b o e e0 => by
      subst e
      obtain ⟨o1, _, _, rfl⟩ := hp
      have h1 := hq0 (b, o1) (List.mem_singleton_self _)
      have h2 := (I10.pin (b, o1) (List.mem_append_right _ (List.mem_append_left _ (List.mem_singleton_self _)))).1
      rw [e0] at h1
      cases h1
      exact h2
    refine seg_yield hfs.split.1 rfl hfs.split.2 ⟨same, ys, y, H10, r10, N.out hp I10, hE _ _ _ _ _ (fun nx s' nap => ?_) q10⟩
    have hA : ∀ b, S = some b → Apart Y b ∧ H10 b = none ∧ ∀ q ∈ Y.pn ++ ip', q.1 ≠ b := fun b e => by
      obtain ⟨h1, h2⟩ := N.hS b e
      refine ⟨h1, ?_, fun q hq => ?_⟩
      · subst e
        obtain ⟨o, _, _, rfl⟩ := hp
        exact (I10.pin (b, o) (List.mem_append_right _ (List.mem_append_left _ (List.mem_singleton_self _)))).2.1
      · rcases List.mem_append.mp hq with z | z
        · exact h2 q z
        · exact hSi b e q z
    have I1 : Inv Y ip' σ8 H10 s' := inv_nap I0 hA nap.os nap.bare nap.keep
    obtain ⟨p', hp', I2⟩ : ∃ p', PinS S CO (ys ++ [y]) p' ∧ Inv Y (p' ++ ip') σ8 H10 s' := by
      cases hSe : S with
      | none => exact ⟨[], rfl, I1⟩
      | some b =>
        obtain ⟨o', ho, hco', hnc⟩ := nap.own b hSe
        obtain ⟨_, z2, _⟩ := hA b hSe
        have hp2 := hp
        rw [hSe] at hp2
        obtain ⟨o, _, _, rfl⟩ := hp2
        obtain ⟨_, y2, y3, y4, _⟩ := I10.pin (b, o) (List.mem_append_right _ (List.mem_append_left _ (List.mem_singleton_self _)))
        refine ⟨[(b, o')], ⟨o', hco', hnc, rfl⟩, I1.pins_of fun q hq => ?_⟩
        rcases List.mem_append.mp hq with z | z
        · rw [List.mem_singleton.mp z]
          exact ⟨ho, z2, y3, y4, hnc⟩
        · exact I1.pin q (List.mem_append_right _ z)
    exact kont m' k (ys ++ [y]) s' s' H10 p' σ8 (by omega) nx hp' (fun q hq => (I2.pin q (List.mem_append_right _ (List.mem_append_left _ hq))).1) hw8 I2
  | cons c' rest ihr =>
    intro vs rd hrd tg iter ifs d hgd hrest J it fp tn g tt T pg pt σ0 hσ fs hfs ip H00 hf0 hSf K W turn cont
    cases hrd with
    | @cons tg' iter' ifs' wi' g' tt' _ vs' _ rd' hsub hi' hg' ht' hs' hrd' =>
    have hnext : gens[d + 1]? = some ⟨tg', iter', ifs', 0⟩ := by
      have := congrArg (fun l => l[0]?) hrest
      simpa using this
    have hrest' : gens.drop (d + 1 + 1) = rest := by
      have := congrArg List.tail hrest
      rw [List.tail_drop] at this
      exact this
    refine nest_core N hgd (fun g2 e => by rw [hnext] at e; cases e; rfl) T pg pt hσ hfs hf0 hSf turn (fun m1 n ys s₀ s H p σ8 ip' hR Kc hmn gn hp hq0 I hSi kont hw8 => ?_) cont
    have eover : Aw.over (.compLoop (.GeneratorExp elt gens scope pos) d (.ref it) .none env) fs = Y.A := by rw [N.eA]; exact hfs.over.1
    unfold afterT
    rw [hnext]
    simp only [bind_assoc]
    have pir := hi'.run (p ++ ip') s σ8 H _ I gn
    rw [N.eP, N.eW, N.eE] at pir
    refine seg_bind_wrap ?_
    rw [eover]
    refine wpAny_mono pir (fun xv s9 q9 => ?_) fun e s' z => absurd z (N.xf e s')
    refine seg_bind_wrap (wpAny_standAt ?_)
    rw [hs']
    refine seg_bind_wrap (wpAny_pure ?_)
    refine seg_bind_wrap ?_
    rw [eover]
    refine wpAny_holding (wpAny_mono q9 (fun itv s10 q10 => ?_) fun e s' z => absurd z (N.xf e s'))
    obtain ⟨it2, fp2, tn2, J2, H10, e10, I10, T2, st10, f10, W2, w2, turn2⟩ := q10
    subst e10
    rw [N.eP, N.eW, N.eK] at T2
    have f11 : ∀ b ∈ fp2, FpOk Y ip' H10 b := fun b hb => by
      obtain ⟨f0, f1, f2, f3, f4, f5⟩ := f10 b hb
      exact ⟨f0, f1, f2, f3, f4, fun q hq => f5 q (by
        rcases List.mem_append.mp hq with z | z
        · exact List.mem_append_left _ z
        · exact List.mem_append_right _ (List.mem_append_right _ z))⟩
    have hS2 : ∀ b, S = some b → b ∉ fp2 ∧ ∀ q ∈ ip', q.1 ≠ b := fun b e => by
      refine ⟨fun hb => ?_, hSi b e⟩
      obtain ⟨_, _, _, _, _, f5⟩ := f10 b hb
      subst e
      obtain ⟨o, _, _, rfl⟩ := hp
      exact f5 (b, o) (List.mem_append_right _ (List.mem_append_left _ (List.mem_singleton_self _))) rfl
    show SegN X Aw s5 H5 a g0 S CO E Qe fp0 n s₀ _ (.call (.compStart (.GeneratorExp elt gens scope pos) (d + 1) (.ref it2) .none env) none false [] (fun r => ((((match r with | .ok f => Sem.pure f | .error e => Sem.raise e) : Sem Flow).onRaise _ >>= fun _ => Sem.pure () >>= fun _ => again (.compLoop (.GeneratorExp elt gens scope pos) d (.ref it) .none env)).wrap Sem.pure hR id id))) fs s10
    refine seg_call fun pp => ?_
    refine seg_startN hnext T2 st10 (ihr vs' rd' hrd' hnext hrest' T2 hg' ht' (σ0 := wipe σ8 vs') (wipe_wipe σ8 vs') (FrN.cons hfs) f11 hS2 turn2 (fun m' n' ys' s₀' s' H' p' c hm' kc hp' hq' I' => ?_) m1 n 0 ys s₀ s10 H10 p hmn w2 hp hq0 (I10.weak (wipe_length _ _) fun j v e => (wipe_some e).1) st10 fun b hb => (f10 b hb).1)
    refine seg_leaf (.ok .next) ?_
    exact kont m' n' ys' s₀' s' H' p' (wipe σ8 vs') hm' kc hp' hq' (by rw [wipe_sub hsub]; exact hw8) I'
end
end Cs

namespace Cs
open PySem PySem.Spec PyProof.Rows L2 GenW
open Sem (wp)
theorem eval_genN {elt tg iter : Expr} {ifs : List Expr} {rest : List Comprehension} {scope : Scope} {pos : Pos} {env : Env} (co : scope.isCoroutine = false) :
    eval (.GeneratorExp elt (⟨tg, iter, ifs, 0⟩ :: rest) scope pos) env = (do
      let src ← eval iter env
      standAt iter.pos
      let src ← genFold iter env src
      let walk ← holding [src] (pyIter src)
      enterFrame
      let clos ← closureFor scope env
      let cd ← genexprCode env pos (env.qual ++ "<genexpr>") scope
      let bn ← builtinsFor env.globals env.builtins
      let inner ← newFunctionEnv scope env.globals clos [(".0", walk)] (env.qual ++ "<genexpr>.") none cd none bn
      newGenerator (.compStart (.GeneratorExp elt (⟨tg, iter, ifs, 0⟩ :: rest) scope pos) 0 walk .none inner) "<genexpr>" (env.qual ++ "<genexpr>")) := by
  rw [arm_eval_GeneratorExp]
  simp only [co, Bool.false_eq_true, if_false]
  cases iter <;> rfl
theorem genN_make {M : Model} {A : Around} {E : Value → Shared → Prop} {s : Shared} {env : Env} {elt tg iter : Expr} {ifs : List Expr} {rest : List Comprehension} {scope : Scope} {cl : List (Str × Addr)} {pos : Pos} {Q : Value → Shared → Prop}
    (co : scope.isCoroutine = false) (clos : closureFor scope env = pure cl) (cell : ∀ y ∈ scope.names, y.2 ≠ .cell) (dot : scope.names.lookup (".0" : Str) = some NameKind.local) (kind : scope.kind = .function) (room : A.depth < recursionLimit)
    (h : wpAny M A (eval iter env) (fun xv s₁ => wpAny M A (pyIter xv) (fun it s₂ => s₂.heap.NoLimit ∧ wpAny M A (genexprCode env pos (env.qual ++ "<genexpr>") scope) (fun code s₃ => wpAny M A (builtinsFor env.globals env.builtins) (fun bi s₄ =>
        ∀ h', h'.Ns s₄.heap.objs.size (fun y => if y = ".0" then some it else none) → Heap.SameBut s₄.heap.objs.size (s₄.heap.push { cls := .type "frame", data := .dict #[] }) h' →
          Q (.ref h'.objs.size) { s₄ with gens := s₄.gens.push (.fresh (.compStart (.GeneratorExp elt (⟨tg, iter, ifs, 0⟩ :: rest) scope pos) 0 it .none (genEnv scope cl s₄.heap.objs.size code bi env))), toks := s₄.toks + 1 + 1 + 1, heap := h'.push { cls := .type "generator", data := .fields #[.int s₄.gens.size 0, .str "<genexpr>" (s₄.toks + 1), .str (env.qual ++ "<genexpr>") (s₄.toks + 1 + 1)] } }) E s₃) E s₂) E s₁) E s)
    (hs : ∀ x, genFold iter env x = pure x) : wpAny M A (eval (.GeneratorExp elt (⟨tg, iter, ifs, 0⟩ :: rest) scope pos) env) Q E s := by
  rw [eval_genN co, clos]
  refine wpAny_bind (wpAny_mono h (fun xv s1 q1 => ?_) fun _ _ e => e)
  refine wpAny_bind (wpAny_standAt (wpAny_bind (wpAny_of_eq (hs xv) (wpAny_bind (wpAny_holding (wpAny_mono q1 (fun it s2 q2 => ?_) fun _ _ e => e))))))
  refine wpAny_bind (wpAny_enterFrame q2.1 room (wpAny_bind (wpAny_pure (wpAny_bind (wpAny_mono q2.2 (fun code s3 q3 => ?_) fun _ _ e => e)))))
  refine wpAny_bind (wpAny_mono q3 (fun bi s4 q4 => ?_) fun _ _ e => e)
  have bnd : ∀ y ∈ ([((".0" : Str), it)] : List (Str × Value)), scope.names.lookup y.1 = some NameKind.local := fun y hy => by
    rw [List.mem_singleton.mp hy]; exact dot
  refine wpAny_bind (wpAny_newFunctionEnv cell bnd (fun h' ns sb => ?_) kind)
  have e : (fun y : Str => ([((".0" : Str), it)] : List (Str × Value)).reverse.lookup y) = fun y : Str => if y = (".0" : Str) then some it else none := by
    funext y
    by_cases c : y = ".0"
    · subst c; simp
    · have c2 : (y == (".0" : Str)) = false := by simpa using c
      simp [List.lookup, c2, c]
  rw [e] at ns
  simp only [newGenerator, newFields]
  exact wpAny_bind (wpAny_newGen (wpAny_bind (wpAny_mkText (wpAny_bind (wpAny_mkText (wpAny_newObj_type (q4 h' ns sb) (by size_fits)))))))
/-- the reading of one with several fors -/
def tGenN (P : Addr) (E : Eat) (Qe : List V → Hp → Prop) (wi : TI) (g : TG) (tt : L2.TT) (te : TE) (vs : List Nat) (rd : List ClR) (σ : L2.St) (H : Hp) : Prop :=
  wi σ H fun J H1 => GxR.TabG H1 P ∧ ∀ H2, GxR.Tabbed P H1 H2 → ∃ W : Nat → Nat → List V → Hp → Prop, (∃ m, W 0 m [] H2) ∧ GTurnN E te J g tt vs rd (wipe σ vs) (fun _ ys H => Qe ys H) W
section
variable {X : Cx} {pins : List (Addr × Obj)} {σ : L2.St} {H : Hp} {s : Shared}
theorem gen_makeN {c P : Addr} {elt tg iter : Expr} {ifs : List Expr} {scope : Scope} {own : List (Str × Nat)} {pos : Pos} {wi : TI} {g : TG} {tt : L2.TT} {te : TE} {rest : List Comprehension} {rd : List ClR} {k : Nat} {E : Eat} {Qe : List V → Hp → Prop}
    (hr : Room k X.A) (hc : X.calm = true) (hN : X.N.Nodup) (TB : GxR.TabB X.base X.mg c P) (hcode : X.env.code = .ref c) (S : GSc X.N X.env.scope scope own) (hi : PI X tg iter wi)
    (hg : ∀ (Ag : Around) (s : Shared) (H : Hp) (cl : List (Str × Addr)) (C : Addr) (code : Value) (fp : List Addr) (pn : List (Addr × Obj)), Room k Ag → PG (gcx X Ag s H scope cl C code fp pn) tg g)
    (ht : ∀ (Ag : Around) (s : Shared) (H : Hp) (cl : List (Str × Addr)) (C : Addr) (code : Value) (fp : List Addr) (pn : List (Addr × Obj)), Room k Ag → PTs (gcx X Ag s H scope cl C code fp pn) ifs tt)
    (he : ∀ (Ag : Around) (s : Shared) (H : Hp) (cl : List (Str × Addr)) (C : Addr) (code : Value) (fp : List Addr) (pn : List (Addr × Obj)), Room k Ag → PE (gcx X Ag s H scope cl C code fp pn) elt te)
    (hcl : ∀ (Ag : Around) (s : Shared) (H : Hp) (cl : List (Str × Addr)) (C : Addr) (code : Value) (fp : List Addr) (pn : List (Addr × Obj)), Room k Ag → Cls' (gcx X Ag s H scope cl C code fp pn) (own.map (·.2)) rest rd)
    (hs : ∀ v, genFold iter X.env v = pure v) (hE : EatMono E) (I : Inv X pins σ H s) (h : tGenN P E Qe wi g tt te (own.map (·.2)) rd σ H) :
    wpAny (model X.prog X.w) X.A (eval (.GeneratorExp elt (⟨tg, iter, ifs, 0⟩ :: rest) scope pos) X.env) (GReady X pins σ k E Qe) X.xe s := by
  have hfree : ∀ y ∈ scope.names, y.2 = .free → ∃ c, X.env.cells.lookup y.1 = some c := fun y hy e => by
    rcases S.ok.free y hy e with k | k
    · exact I.ok.has _ (.inl k)
    · exact I.ok.has _ (.inr k)
  refine genN_make S.co (closure_ok hfree) S.cell S.dot S.ok.kind (by have := hr.dp; omega) ?_ hs
  refine thn (hi.run pins s σ H _ I h) fun xv s1 hx => thn hx fun itv s2 h2 => ?_
  obtain ⟨it, fp, tn, J, H2, e, I2, T, st2, f2, ⟨ps, hP, htr⟩, q⟩ := h2
  subst e
  have hPs : s2.heap.get? P = some { cls := .none, data := .fields ps } := I2.hok P _ hP
  have cd : PySem.W.CodeHd s2.heap c P := TB.code.keeps fun b u e => I2.bk b u e
  refine ⟨I2.nolimit, ?_⟩
  have cont : ∀ (code : Value) (h3 : Heap) (tk : Nat) (ps' : Array Value), Heap.ExtBut P s2.heap h3 → s2.heap.objs.size ≤ h3.objs.size → h3.get? P = some { cls := .none, data := .fields ps' } → (∃ more, ps' = ps ++ more) → TriplesOk ps'.toList →
      wpAny (model X.prog X.w) X.A (builtinsFor X.env.globals X.env.builtins) (fun bi s₄ => ∀ h', h'.Ns s₄.heap.objs.size (fun y => if y = ".0" then some (.ref it) else none) → Heap.SameBut s₄.heap.objs.size (s₄.heap.push { cls := .type "frame", data := .dict #[] }) h' →
          GReady X pins σ k E Qe (.ref h'.objs.size) { s₄ with
            gens := s₄.gens.push (.fresh (.compStart (.GeneratorExp elt (⟨tg, iter, ifs, 0⟩ :: rest) scope pos) 0 (.ref it) .none (genEnv scope (cloFrom X.env.cells scope.names []) s₄.heap.objs.size code bi X.env))),
            toks := s₄.toks + 1 + 1 + 1,
            heap := h'.push { cls := .type "generator", data := .fields #[.int s₄.gens.size 0, .str "<genexpr>" (s₄.toks + 1), .str (X.env.qual ++ "<genexpr>") (s₄.toks + 1 + 1)] } }) X.xe { s2 with heap := h3, toks := tk } := by
    intro code h3 tk ps' hx hsz hP3 hmore ht3
    obtain ⟨bm, ob, e1, e2, e3, e4, e5, e6, e7, e8⟩ := TB.bm
    have keep3 : ∀ b u, b ≠ P → s2.heap.get? b = some u → h3.get? b = some u := fun b u hb e => hx b u hb e
    refine wpAny_builtinsFor (m := X.mg) (by rw [I2.ok.glob]; exact (I2.mod.glob.keeps I2.bk).extBut hx TB.gP) e1 e2 (keep3 _ _ e4 (I2.bk _ _ e5)) e6 e7 e8 ?_
    obtain ⟨more, rfl⟩ := hmore
    have J4 := GxR.inv_tab (more := more) (h' := h3) (g' := s2.gens) (d' := s2.drawn) (t' := tk) I2 hP keep3 hP3 I2.bare
    generalize hs4 : ({ s2 with heap := h3, toks := tk } : Shared) = s4
    have J4 : Inv X pins σ (upd H2 P (.tbl (ps ++ more))) s4 := by rw [← hs4]; exact J4
    have h34 : s4.heap = h3 := by rw [← hs4]
    obtain ⟨W, ⟨m0, w0⟩, turn⟩ := q (upd H2 P (.tbl (ps ++ more))) ⟨⟨ps ++ more, upd_same, ht3⟩, fun b hb => upd_ne hb⟩
    have nP : ∀ b ∈ fp, b ≠ P := fun b hb z => by
      have := (f2 b hb).1
      rw [z, hP] at this; cases this
    have f4 : ∀ b ∈ fp, FpOk X pins (upd H2 P (.tbl (ps ++ more))) b ∧ b < s4.heap.objs.size := fun b hb => by
      refine ⟨⟨by rw [upd_ne (nP b hb)]; exact (f2 b hb).1, (f2 b hb).2⟩, ?_⟩
      obtain ⟨o, e, _⟩ := T.obj _ _ st2 b hb
      rw [h34]
      exact Nat.lt_of_lt_of_le (Heap.lt_size e) hsz
    have st4 : tn 0 s4.heap := T.keep _ _ _ st2 fun b hb o e => by rw [h34]; exact keep3 b o (nP b hb) e
    intro h' hn' hs'
    have hsz' : h'.objs.size = s4.heap.objs.size + 1 := by rw [hs'.1, Heap.size_push]
    have keep' : ∀ b o, s4.heap.get? b = some o → h'.get? b = some o := fun b o e => hs'.extBut b o (Nat.ne_of_lt (Heap.lt_size e)) (Heap.get?_push_of_some _ e)
    generalize hgo : ({ cls := .type "generator", data := .fields #[.int s4.gens.size 0, .str "<genexpr>" (s4.toks + 1), .str (X.env.qual ++ "<genexpr>") (s4.toks + 1 + 1)] } : Obj) = go
    have hgen : ∀ h : Heap, h.get? h'.objs.size = some go → h.IsGen h'.objs.size s4.gens.size := fun h e => ⟨go, _, _, e, by rw [← hgo], by rw [← hgo], by rw [← hgo]⟩
    have hpush : (h'.push go).get? h'.objs.size = some go := by
      rw [← hgo]; exact Heap.get?_push_size _ rfl
    have keep5 : ∀ b o, s4.heap.get? b = some o → (h'.push go).get? b = some o := fun b o e => Heap.get?_push_of_some _ (keep' b o e)
    refine ⟨h'.objs.size, s4.gens.size, _, _, fp, s4, m0 + 1, rfl, J4, fun b hb => (f4 b hb).1, by omega, (by show _ < (h'.push go).objs.size; rw [Heap.size_push]; exact Nat.lt_succ_self _), hgen _ hpush, Array.getElem?_push_size .., rfl, AllBare.push J4.bare rfl, J4.nolimit.keeps keep5, keep5, ?_⟩
    intro Aw Sx CO s6 hrw hfr hSx hk6 hos hba
    have hk46 : ∀ b o, s4.heap.get? b = some o → s6.heap.get? b = some o := fun b o e => hk6 b o (keep5 b o e)
    have young : ∀ b, s4.heap.objs.size ≤ b → (upd H2 P (.tbl (ps ++ more))) b = none ∧ b ∉ frs X.stack ∧ b ∉ fp := fun b hb => by
      refine ⟨J4.hok.fresh hb, fun hm => ?_, fun hm => absurd (Nat.lt_of_lt_of_le (f4 b hm).2 hb) (Nat.lt_irrefl _)⟩
      obtain ⟨_, o, ho, _⟩ := J4.stack.mem hm
      exact absurd (Nat.lt_of_lt_of_le (Heap.lt_size ho) hb) (Nat.lt_irrefl _)
    have hsz5 : (h'.push go).objs.size = s4.heap.objs.size + 2 := by rw [Heap.size_push, hsz']
    have hSa : ∀ b, Sx = some b → s4.heap.objs.size + 2 ≤ b ∧ ∃ o, s6.heap.get? b = some o ∧ CO [] o ∧ ∀ v, o.data ≠ .cell v := fun b e => by
      obtain ⟨h1, h2⟩ := hSx b e
      have h1 : (h'.push go).objs.size ≤ b := h1
      exact ⟨by omega, h2⟩
    obtain ⟨pq, hpq, hpin⟩ : ∃ pq, PinS Sx CO [] pq ∧ ∀ p ∈ pq, s6.heap.get? p.1 = some p.2 ∧ s4.heap.objs.size + 2 ≤ p.1 ∧ ∀ v, p.2.data ≠ .cell v := by
      cases hSe : Sx with
      | none => exact ⟨[], rfl, fun p hp => nomatch hp⟩
      | some b =>
        obtain ⟨h1, o, h2, h3, h4⟩ := hSa b hSe
        exact ⟨[(b, o)], ⟨o, h3, h4, rfl⟩, fun p hp => by rw [List.mem_singleton.mp hp]; exact ⟨h2, h1, h4⟩⟩
    have gdat : ∀ v, go.data ≠ .cell v := fun v e => by rw [← hgo] at e; cases e
    have I6 := gen_start (Ag := Aw.deeper (genEnv scope (cloFrom X.env.cells scope.names []) s4.heap.objs.size code builtinsNs X.env)) (s5 := s6) (code := code) (pn := [(h'.objs.size, go)]) (pq := pq) J4 S.ok hN S.cell f4 hrw.hd (Around.frames_deeper hfr) hos hba hk46
      ((hn'.push go).keeps hk6) (fun p hp => by
        rcases List.mem_append.mp hp with z | z
        · rw [List.mem_singleton.mp z]
          obtain ⟨y1, y2, _⟩ := young h'.objs.size (by omega)
          exact ⟨hk6 _ _ hpush, y1, (by show h'.objs.size ≠ _; omega), y2, gdat⟩
        · obtain ⟨y0, y9, y8⟩ := hpin p z
          obtain ⟨y1, y2, _⟩ := young p.1 (by omega)
          exact ⟨y0, y1, Nat.ne_of_gt (Nat.lt_of_lt_of_le (Nat.lt_add_of_pos_right (by decide)) y9), y2, y8⟩)
    generalize hYg : gcx X (Aw.deeper (genEnv scope (cloFrom X.env.cells scope.names []) s4.heap.objs.size code builtinsNs X.env)) s4 (upd H2 P (.tbl (ps ++ more))) scope (cloFrom X.env.cells scope.names []) s4.heap.objs.size code fp [(h'.objs.size, go)] = Yg at I6
    have na : h'.objs.size ∉ fp := (young h'.objs.size (by omega)).2.2
    have hfp0 : ∀ b ∈ fp, FpOk Yg [] (upd H2 P (.tbl (ps ++ more))) b := fun b hb => by
      have hb' : b ∈ Yg.ex := by rw [← hYg]; exact hb
      refine ⟨(f4 b hb).1.1, (I6.ok.exf b hb').1, I6.ok.exfs b hb', .inl hb', fun x c e => (I6.ok.exf b hb').2 x c e, fun q hqm e => ?_⟩
      rw [← hYg] at hqm
      rcases List.mem_append.mp hqm with z | z
      · have z : q ∈ [(h'.objs.size, go)] := z
        rw [List.mem_singleton.mp z] at e
        exact na (by rw [show h'.objs.size = b from e]; exact hb)
      · cases z
    have hSY : ∀ b, Sx = some b → (Apart Yg b ∧ ∀ q ∈ Yg.pn, q.1 ≠ b) ∧ b ∉ fp := fun b e => by
      have hh : Apart (gcx X (Aw.deeper (genEnv scope (cloFrom X.env.cells scope.names []) s4.heap.objs.size code builtinsNs X.env)) s4 (upd H2 P (.tbl (ps ++ more))) scope (cloFrom X.env.cells scope.names []) s4.heap.objs.size code fp [(h'.objs.size, go)]) b ∧ h'.objs.size ≠ b ∧ b ∉ fp := by
        obtain ⟨h1, _⟩ := hSa b e
        obtain ⟨y1, y2, y3⟩ := young b (by omega)
        refine ⟨⟨(by show s4.heap.objs.size ≤ b; omega), Nat.ne_of_gt (Nat.lt_of_lt_of_le (Nat.lt_add_of_pos_right (by decide)) h1), fun x c e2 z => ?_⟩, Nat.ne_of_lt (Nat.lt_of_lt_of_le (by rw [hsz']; exact Nat.lt_succ_self _) h1), y3⟩
        have e2 : (cloFrom X.env.cells scope.names []).lookup x = some c := e2
        rcases cloFrom_mem (PySem.mem_of_lookup e2) with hm | ⟨h9, rfl⟩
        · cases hm
        · obtain ⟨c', hc'⟩ := hfree _ h9 rfl
          rw [hc'] at z
          obtain ⟨w, zc⟩ := J4.cell _ _ hc'
          have hlt : c' < s4.heap.objs.size := zc.lt
          have z : c' = b := z
          rw [z] at hlt
          exact absurd (Nat.lt_of_lt_of_le hlt (Nat.le_trans (Nat.le_add_right _ 2) h1)) (Nat.lt_irrefl _)
      rw [← hYg]
      refine ⟨⟨hh.1, fun q hq => ?_⟩, hh.2.2⟩
      have hq : q ∈ [(h'.objs.size, go)] := hq
      rw [List.mem_singleton.mp hq]
      exact hh.2.1
    have NC : NCx X Yg Aw s4 (upd H2 P (.tbl (ps ++ more))) h'.objs.size s4.gens.size Sx CO (genEnv scope (cloFrom X.env.cells scope.names []) s4.heap.objs.size code builtinsNs X.env) fp := by
      refine ⟨S.co, by rw [← hYg], by rw [← hYg], by rw [← hYg], by rw [← hYg], by rw [← hYg], by rw [← hYg]; exact hc, by rw [← hYg]; exact fun _ _ z => z, fun hp I' => ?_, fun b e => (hSY b e).1⟩
      rw [← hYg] at I'
      exact out_of hgen hp I'
    have pgY : PG Yg tg g := by rw [← hYg]; exact hg _ _ _ _ _ _ _ _ (hrw.deeper _)
    have ptY : PTs Yg ifs tt := by rw [← hYg]; exact ht _ _ _ _ _ _ _ _ (hrw.deeper _)
    have peY : PE Yg elt te := by rw [← hYg]; exact he _ _ _ _ _ _ _ _ (hrw.deeper _)
    have clY : Cls' Yg (own.map (·.2)) rest rd := by rw [← hYg]; exact hcl _ _ _ _ _ _ _ _ (hrw.deeper _)
    refine seg_startN rfl T (T.keep _ _ _ st4 fun b hb o e => hk46 b o e) ?_
    refine nest_loop hE NC peY rest _ rd clY rfl rfl T pgY ptY (wipe_wipe σ _) FrN.nil (ip := []) hfp0 (fun b e => ⟨(hSY b e).2, fun q hq => nomatch hq⟩) turn (fun m n ys s₀ s H p c _ qq hp hq0 I' => ?_) m0 (m0 + 1) 0 [] s6 s6 _ pq (Nat.lt_succ_self _) w0 hpq (fun q hq => (hpin q hq).1) (by rw [List.append_nil]; exact I6)
      (T.keep _ _ _ st4 fun b hb o e => hk46 b o e) (fun b hb => (f4 b hb).1.1)
    · refine seg_end (.ok .next) (.inl ⟨.inr rfl, fun b o e e0 => ?_, ys, H, NC.out hp I', qq⟩)
      subst e
      obtain ⟨o1, _, _, rfl⟩ := hp
      have h1 := hq0 (b, o1) (List.mem_singleton_self _)
      have h2 := (I'.pin (b, o1) (List.mem_append_right _ (List.mem_append_left _ (List.mem_singleton_self _)))).1
      rw [e0] at h1
      cases h1
      exact h2
  cases hf : codeAmong pos ps.toList with
  | none =>
    refine wpAny_genexprCodeX hcode (cd.code hPs htr) (cd.tab hPs) hf fun c' h' tk hx hge hlt hco' _ htab' _ => ?_
    obtain ⟨o1, vs, f1, tf, fl, tg, inF, tx, tt, op, _, _, _, _, _, _, _, _, _, htr', _⟩ := hco'
    exact cont _ h' tk _ hx (Nat.le_trans hge (Nat.le_of_lt hlt)) htab'.2 ⟨_, rfl⟩ htr'
  | some cv =>
    refine wpAny_genexprCode_hit hcode (cd.code hPs htr) hf ?_
    exact cont cv s2.heap s2.toks ps (Heap.ExtBut.refl _ _) (Nat.le_refl _) hPs ⟨#[], by simp⟩ htr
end
section
variable {X : Cx}
def tAllGN (P : Addr) (wi : TI) (g : TG) (tt : L2.TT) (te : TE) (vs : List Nat) (rd : List ClR) : TE := fun σ H Q => tGenN P (eatB false fun H' => Q (.bl false) H') (fun _ H' => Q (.bl true) H') wi g tt te vs rd σ H
theorem pe_allGN {c P : Addr} {elt tg iter : Expr} {ifs : List Expr} {scope : Scope} {own : List (Str × Nat)} {p pos gpos : Pos} {wi : TI} {g : TG} {tt : L2.TT} {te : TE} {rest : List Comprehension} {rd : List ClR} {k : Nat}
    (hr : Room (k + 2) X.A) (hgl : Gl X "all") (hm : X.mg "all" = none) (hc : X.calm = true) (hN : X.N.Nodup) (TB : GxR.TabB X.base X.mg c P) (hcode : X.env.code = .ref c) (S : GSc X.N X.env.scope scope own) (hi : PI X tg iter wi)
    (hg : ∀ (Ag : Around) (s : Shared) (H : Hp) (cl : List (Str × Addr)) (C : Addr) (code : Value) (fp : List Addr) (pn : List (Addr × Obj)), Room k Ag → PG (gcx X Ag s H scope cl C code fp pn) tg g)
    (ht : ∀ (Ag : Around) (s : Shared) (H : Hp) (cl : List (Str × Addr)) (C : Addr) (code : Value) (fp : List Addr) (pn : List (Addr × Obj)), Room k Ag → PTs (gcx X Ag s H scope cl C code fp pn) ifs tt)
    (he : ∀ (Ag : Around) (s : Shared) (H : Hp) (cl : List (Str × Addr)) (C : Addr) (code : Value) (fp : List Addr) (pn : List (Addr × Obj)), Room k Ag → PE (gcx X Ag s H scope cl C code fp pn) elt te)
    (hcl : ∀ (Ag : Around) (s : Shared) (H : Hp) (cl : List (Str × Addr)) (C : Addr) (code : Value) (fp : List Addr) (pn : List (Addr × Obj)), Room k Ag → Cls' (gcx X Ag s H scope cl C code fp pn) (own.map (·.2)) rest rd)
    (hs : ∀ v, genFold iter X.env v = pure v := by intro _; rfl) (hb : bootBuiltins "all" = some (.builtin "all") := by decide +kernel)
    (hst : starEach [.GeneratorExp elt (⟨tg, iter, ifs, 0⟩ :: rest) scope gpos] X.env = (false, eval (.GeneratorExp elt (⟨tg, iter, ifs, 0⟩ :: rest) scope gpos) X.env) :: starEach [] X.env := by rfl) :
    PE X (.Call (.Name "all" p) [.GeneratorExp elt (⟨tg, iter, ifs, 0⟩ :: rest) scope gpos] [] pos) (tAllGN P wi g tt te (own.map (·.2)) rd) := by
  refine ⟨fun pins s σ H Q I h => ?_⟩
  refine wpAny_Call_Name_kw (ld_blt I hgl hm hb ?_)
  refine PyProof.Rows.callWith_builtin1 ?_ hst (by rfl)
  rw [hst]
  show wpAny _ _ (spliced ((false, eval (.GeneratorExp elt (⟨tg, iter, ifs, 0⟩ :: rest) scope gpos) X.env) :: backTo pos (starEach [] X.env))) _ _ s
  refine Calls.spliced_cons (thn (gen_makeN (hr.mono (by omega)) hc hN TB hcode S hi hg ht he hcl hs (eatB_mono _ _) I h) fun u s5 hG => ?_)
  refine Calls.spliced_nil ?_
  obtain ⟨a, gg, cc, H5, fp, sA, n, rfl, I5, hf, h1, h2, h3, h4, h5, h6, h7, h8, wake⟩ := hG
  refine call_function_tree PySem.F.kind_all PySem.F.plain_all PySem.F.entry_all (PySem.F.args_all1 _) ?_
  unfold Builtin.«all»
  refine wpAny_bind (m := oneArg "all" _) (wpAny_pure ?_)
  refine wpAny_bind (wpAny_pyIter_gen h3 ?_)
  refine wpAny_pure ⟨plainId_quiet PySem.F.plain_all_loop _, all_loopG (X := X) (CO := fun _ _ => True) (Ft := fun H' => Q (.bl false) H') (H5 := H5) (sA := sA) (fp := fp) (Qe := fun _ H' => Q (.bl true) H') hr.hd (by have := hr.dp; omega) (fun ys H' s1 O q => ?_) (fun ys H' s1 O q => ?_) n s5 _ h7 h3 h4 ⟨rfl, ?_⟩⟩
  · exact ⟨.bl true, H', O.back I5 hf, rfl, q⟩
  · exact ⟨.bl false, H', O.back I5 hf, rfl, q⟩
  · exact wake X.A.in1.in1 none (fun _ _ => True) _ (Room.ins hr) I5.ok.frames (fun b e => nomatch e) (fun _ _ e => e) rfl (allBare_setGen h6 rfl)
def tAnyGN (P : Addr) (wi : TI) (g : TG) (tt : L2.TT) (te : TE) (vs : List Nat) (rd : List ClR) : TE := fun σ H Q => tGenN P (eatB true fun H' => Q (.bl true) H') (fun _ H' => Q (.bl false) H') wi g tt te vs rd σ H
theorem pe_anyGN {c P : Addr} {elt tg iter : Expr} {ifs : List Expr} {scope : Scope} {own : List (Str × Nat)} {p pos gpos : Pos} {wi : TI} {g : TG} {tt : L2.TT} {te : TE} {rest : List Comprehension} {rd : List ClR} {k : Nat}
    (hr : Room (k + 2) X.A) (hgl : Gl X "any") (hm : X.mg "any" = none) (hc : X.calm = true) (hN : X.N.Nodup) (TB : GxR.TabB X.base X.mg c P) (hcode : X.env.code = .ref c) (S : GSc X.N X.env.scope scope own) (hi : PI X tg iter wi)
    (hg : ∀ (Ag : Around) (s : Shared) (H : Hp) (cl : List (Str × Addr)) (C : Addr) (code : Value) (fp : List Addr) (pn : List (Addr × Obj)), Room k Ag → PG (gcx X Ag s H scope cl C code fp pn) tg g)
    (ht : ∀ (Ag : Around) (s : Shared) (H : Hp) (cl : List (Str × Addr)) (C : Addr) (code : Value) (fp : List Addr) (pn : List (Addr × Obj)), Room k Ag → PTs (gcx X Ag s H scope cl C code fp pn) ifs tt)
    (he : ∀ (Ag : Around) (s : Shared) (H : Hp) (cl : List (Str × Addr)) (C : Addr) (code : Value) (fp : List Addr) (pn : List (Addr × Obj)), Room k Ag → PE (gcx X Ag s H scope cl C code fp pn) elt te)
    (hcl : ∀ (Ag : Around) (s : Shared) (H : Hp) (cl : List (Str × Addr)) (C : Addr) (code : Value) (fp : List Addr) (pn : List (Addr × Obj)), Room k Ag → Cls' (gcx X Ag s H scope cl C code fp pn) (own.map (·.2)) rest rd)
    (hs : ∀ v, genFold iter X.env v = pure v := by intro _; rfl) (hb : bootBuiltins "any" = some (.builtin "any") := by decide +kernel)
    (hst : starEach [.GeneratorExp elt (⟨tg, iter, ifs, 0⟩ :: rest) scope gpos] X.env = (false, eval (.GeneratorExp elt (⟨tg, iter, ifs, 0⟩ :: rest) scope gpos) X.env) :: starEach [] X.env := by rfl) :
    PE X (.Call (.Name "any" p) [.GeneratorExp elt (⟨tg, iter, ifs, 0⟩ :: rest) scope gpos] [] pos) (tAnyGN P wi g tt te (own.map (·.2)) rd) := by
  refine ⟨fun pins s σ H Q I h => ?_⟩
  refine wpAny_Call_Name_kw (ld_blt I hgl hm hb ?_)
  refine PyProof.Rows.callWith_builtin1 ?_ hst (by rfl)
  rw [hst]
  show wpAny _ _ (spliced ((false, eval (.GeneratorExp elt (⟨tg, iter, ifs, 0⟩ :: rest) scope gpos) X.env) :: backTo pos (starEach [] X.env))) _ _ s
  refine Calls.spliced_cons (thn (gen_makeN (hr.mono (by omega)) hc hN TB hcode S hi hg ht he hcl hs (eatB_mono _ _) I h) fun u s5 hG => ?_)
  refine Calls.spliced_nil ?_
  obtain ⟨a, gg, cc, H5, fp, sA, n, rfl, I5, hf, h1, h2, h3, h4, h5, h6, h7, h8, wake⟩ := hG
  refine call_function_tree PySem.F.kind_any PySem.F.plain_any PySem.F.entry_any (PySem.F.args_any1 _) ?_
  unfold Builtin.«any»
  refine wpAny_bind (m := oneArg "any" _) (wpAny_pure ?_)
  refine wpAny_bind (wpAny_pyIter_gen h3 ?_)
  refine wpAny_pure ⟨plainId_quiet PySem.F.plain_any_loop _, any_loopG (X := X) (CO := fun _ _ => True) (Ft := fun H' => Q (.bl true) H') (H5 := H5) (sA := sA) (fp := fp) (Qe := fun _ H' => Q (.bl false) H') hr.hd (by have := hr.dp; omega) (fun ys H' s1 O q => ?_) (fun ys H' s1 O q => ?_) n s5 _ h7 h3 h4 ⟨rfl, ?_⟩⟩
  · exact ⟨.bl false, H', O.back I5 hf, rfl, q⟩
  · exact ⟨.bl true, H', O.back I5 hf, rfl, q⟩
  · exact wake X.A.in1.in1 none (fun _ _ => True) _ (Room.ins hr) I5.ok.frames (fun b e => nomatch e) (fun _ _ e => e) rfl (allBare_setGen h6 rfl)
end
end Cs
namespace Cs
open PySem PySem.Spec PyProof.Rows L2 GenW
/-! ### the forms one uses -/
/-- a turn's end: the inner fors, or the next turn -/
abbrev TurnEnd (E : Eat) (te : TE) (rd : List ClR) (σ2 : L2.St) (m : Nat) (ys : List V) (H3 : Hp) (b : Bool) (Wn : Nat → List V → Hp → Prop) : Prop :=
  if b = true then ∃ m1, m1 < m ∧ GNest E te rd σ2 m1 ys H3 (fun m' ys' H' => m' ≤ m1 ∧ Wn m' ys' H') else ∃ m', m' < m ∧ Wn m' ys H3
/-- len turns of at most B items each, with rest left behind them -/
def WN (len B rest top : Nat) (Pv : Nat → List V → Hp → Prop) : Nat → Nat → List V → Hp → Prop := fun i m ys H => (len - i) * (B + 1) + rest ≤ m ∧ m ≤ top ∧ i ≤ len ∧ Pv i ys H
section
variable {E : Eat} {te : TE} {rd : List ClR} {σ2 : L2.St} {m len B rest top i : Nat} {ys : List V} {H3 : Hp} {Pv : Nat → List V → Hp → Prop}
theorem te_in (hi : i < len) (hm : (len - i) * (B + 1) + rest ≤ m) (ht : m ≤ top) (h : ∀ (m1 : Nat) (Kc : Nat → List V → Hp → Prop), B ≤ m1 → (∀ m' ys' H', m1 ≤ m' + B → m' ≤ m1 → Pv (i + 1) ys' H' → Kc m' ys' H') → GNest E te rd σ2 m1 ys H3 Kc) :
    ∃ m1, m1 < m ∧ GNest E te rd σ2 m1 ys H3 (fun m' ys' H' => m' ≤ m1 ∧ WN len B rest top Pv (i + 1) m' ys' H') := by
  have e : (len - i) * (B + 1) = (len - (i + 1)) * (B + 1) + (B + 1) := by
    have : len - i = (len - (i + 1)) + 1 := by omega
    rw [this, Nat.add_mul, Nat.one_mul]
  have h0 : 0 < m := by rw [e] at hm; omega
  refine ⟨m - 1, by omega, h _ _ (by rw [e] at hm; omega) fun m' ys' H' h1 h2 p => ⟨h2, ?_, by omega, hi, p⟩⟩
  rw [e] at hm
  omega
theorem te_out (hi : i < len) (hm : (len - i) * (B + 1) + rest ≤ m) (ht : m ≤ top) (h : Pv (i + 1) ys H3) : ∃ m', m' < m ∧ WN len B rest top Pv (i + 1) m' ys H3 := by
  have e : (len - i) * (B + 1) = (len - (i + 1)) * (B + 1) + (B + 1) := by
    have : len - i = (len - (i + 1)) + 1 := by omega
    rw [this, Nat.add_mul, Nat.one_mul]
  rw [e] at hm
  exact ⟨m - 1, by omega, by omega, by omega, hi, h⟩
/-- the element -/
theorem el_in {Kc : Nat → List V → Hp → Prop} {σ : L2.St} (m1 : Nat) (hB : 1 ≤ m1) (h : te σ H3 fun y H' => ∃ m', m' < m1 ∧ E ys y H' (Kc m' (ys ++ [y]) H')) : GNest E te [] σ m1 ys H3 Kc := h
end
section
variable {E : Eat} {te : TE} {g : TG} {tt : L2.TT} {vs : List Nat} {rd : List ClR} {σ0 : L2.St} {J : It} {Qe : List V → Hp → Prop} {H0 : Hp}
/-- the outer for -/
theorem outerN {len : Nat} (B : Nat) (Pv : Nat → List V → Hp → Prop) (h0 : Pv 0 [] H0) (stop : ∀ ys H, Pv len ys H → J.stop len H ∧ Qe ys H)
    (go : ∀ i ys H, i < len → Pv i ys H → J.go i H ∧ ∀ x H' m, (len - i) * (B + 1) + 0 ≤ m → m ≤ len * (B + 1) → J.yld i H x H' → g x σ0 H' fun σ2 H2 => wipe σ2 vs = σ0 ∧ tt σ2 H2 fun b H3 => TurnEnd E te rd σ2 m ys H3 b (WN len B 0 (len * (B + 1)) Pv (i + 1))) :
    ∃ W : Nat → Nat → List V → Hp → Prop, (∃ m, W 0 m [] H0) ∧ GTurnN E te J g tt vs rd σ0 (fun _ ys H => Qe ys H) W := by
  refine ⟨WN len B 0 (len * (B + 1)) Pv, ⟨len * (B + 1), by rw [Nat.sub_zero, Nat.add_zero]; exact Nat.le_refl _, Nat.le_refl _, Nat.zero_le _, h0⟩, ?_⟩
  rintro i m ys H ⟨h1, h2, h3, p⟩
  by_cases hlt : i < len
  · obtain ⟨a, b⟩ := go i ys H hlt p
    exact .inr ⟨a, fun x H' y => b x H' m h1 h2 y⟩
  · have e : i = len := by omega
    subst e
    exact .inl (stop ys H p)
/-- an inner for -/
theorem innerN {len m1 : Nat} (B : Nat) {Kc : Nat → List V → Hp → Prop} {ys : List V} {H1 : Hp} (hB : len * (B + 1) ≤ m1) (Pv : Nat → List V → Hp → Prop) (h0 : Pv 0 ys H1) (stop : ∀ ys H, Pv len ys H → J.stop len H ∧ ∀ m', m1 ≤ m' + len * (B + 1) → m' ≤ m1 → Kc m' ys H)
    (go : ∀ i ys H, i < len → Pv i ys H → J.go i H ∧ ∀ x H' m, (len - i) * (B + 1) + (m1 - len * (B + 1)) ≤ m → m ≤ m1 → J.yld i H x H' → g x σ0 H' fun σ2 H2 => wipe σ2 vs = σ0 ∧ tt σ2 H2 fun b H3 => TurnEnd E te rd σ2 m ys H3 b (WN len B (m1 - len * (B + 1)) m1 Pv (i + 1))) :
    ∃ W : Nat → Nat → List V → Hp → Prop, W 0 m1 ys H1 ∧ GTurnN E te J g tt vs rd σ0 Kc W := by
  refine ⟨WN len B (m1 - len * (B + 1)) m1 Pv, ⟨by rw [Nat.sub_zero]; omega, Nat.le_refl _, Nat.zero_le _, h0⟩, ?_⟩
  rintro i m ys H ⟨h1, h2, h3, p⟩
  by_cases hlt : i < len
  · obtain ⟨a, b⟩ := go i ys H hlt p
    exact .inr ⟨a, fun x H' y => b x H' m h1 h2 y⟩
  · have e : i = len := by omega
    subst e
    obtain ⟨s1, s2⟩ := stop ys H p
    exact .inl ⟨s1, s2 m (by omega) h2⟩
end
end Cs

namespace Cs
open PySem PySem.Spec PyProof.Rows L2
/-! ### tables of values: plain -/
structure Tbv where
  many : Nat
  des : List Nat
  nots : List Nat
  ifs : List (List Nat)
deriving DecidableEq
def nI (n : Nat) : PyData := .int (n : Int)
def nV (n : Nat) : V := .int (n : Int)
def nsD (r : List Nat) : PyData := .tuple (r.map nI)
namespace Tbv
def d (t : Tbv) : PyData := .tuple [.str "table", nI t.many, nsD t.des, nsD t.nots, .tuple (t.ifs.map nsD)]
structure Gd (t : Tbv) : Prop where
  m1 : 1 ≤ t.many
  m4 : t.many ≤ 4
  ds : ∀ i ∈ t.des, i < t.many
  nl : t.nots.length = t.many
  ns : ∀ i ∈ t.nots, i < t.many
  il : t.ifs.length = t.many
  is : ∀ r ∈ t.ifs, r.length = t.many ∧ ∀ i ∈ r, i < t.many
def nt (t : Tbv) (i : Nat) : Nat := t.nots.getD i 0
def im (t : Tbv) (i j : Nat) : Nat := (t.ifs.getD i []).getD j 0
theorem nt_at {t : Tbv} (g : t.Gd) {i : Nat} (h : i < t.many) : t.nots[i]? = some (t.nt i) := by
  have hl : i < t.nots.length := by rw [g.nl]; exact h
  unfold nt
  rw [List.getD_eq_getElem?_getD, List.getElem?_eq_getElem hl]
  rfl
theorem nt_lt {t : Tbv} (g : t.Gd) {i : Nat} (h : i < t.many) : t.nt i < t.many := g.ns _ (List.mem_of_getElem? (nt_at g h))
theorem row_at {t : Tbv} (g : t.Gd) {i : Nat} (h : i < t.many) : ∃ r, t.ifs[i]? = some r ∧ r.length = t.many ∧ (∀ k ∈ r, k < t.many) ∧ ∀ j, j < t.many → r[j]? = some (t.im i j) := by
  have hl : i < t.ifs.length := by rw [g.il]; exact h
  obtain ⟨h1, h2⟩ := g.is _ (List.getElem_mem hl)
  refine ⟨_, List.getElem?_eq_getElem hl, h1, h2, fun j hj => ?_⟩
  unfold im
  have e : t.ifs.getD i [] = t.ifs[i] := by rw [List.getD_eq_getElem?_getD, List.getElem?_eq_getElem hl]; rfl
  rw [e, List.getD_eq_getElem?_getD, List.getElem?_eq_getElem (show j < t.ifs[i].length by rw [h1]; exact hj)]
  rfl
theorem im_lt {t : Tbv} (g : t.Gd) {i j : Nat} (h : i < t.many) (hj : j < t.many) : t.im i j < t.many := by
  obtain ⟨r, _, _, h2, h3⟩ := row_at g h
  exact h2 _ (List.mem_of_getElem? (h3 j hj))
/-- the rule of detachment is kept -/
def rule (t : Tbv) : Bool := decide (∀ x ∈ t.des, ∀ y, y < t.many → y ∈ t.des ∨ t.im x y ∉ t.des)
end Tbv
/-! ways to give values to letters -/
abbrev Way := List (Str × Nat)
def wayK (w : Way) : List (Key × V) := w.map fun p => (.inr p.1, nV p.2)
def wayO (w : Way) (x : Str) : Option Nat := (w.find? fun p => decide (p.1 = x)).map (·.2)
theorem valV_wayK (w : Way) (x : Str) : valV (wayK w) (.inr x) = (wayO w x).map nV := by
  induction w with
  | nil => rfl
  | cons p r ih =>
    show valV ((.inr p.1, nV p.2) :: wayK r) (.inr x) = _
    by_cases e : p.1 = x
    · rw [valV_pos (show (Sum.inr p.1 : Key) = Sum.inr x by rw [e])]
      unfold wayO
      rw [List.find?_cons, decide_eq_true e]
      rfl
    · rw [valV_neg (fun h => e (Sum.inr.inj h)), ih]
      unfold wayO
      rw [List.find?_cons, decide_eq_false e]
theorem putK_way {w : Way} {x : Str} (i : Nat) (h : x ∉ w.map (·.1)) : putK (wayK w) (.inr x) (nV i) = wayK (w ++ [(x, i)]) := by
  unfold putK
  have : ¬ ((wayK w).any fun kv => decide (kv.1 = (.inr x : Key))) = true := by
    rw [valV_any, valV_wayK]
    cases e : wayO w x with
    | none => simp
    | some z =>
      exfalso
      unfold wayO at e
      obtain ⟨p, hp, _⟩ := Option.map_eq_some_iff.mp e
      have h1 := List.mem_of_find?_eq_some hp
      have h2 := List.find?_some hp
      exact h (List.mem_map.mpr ⟨p, h1, of_decide_eq_true h2⟩)
  rw [if_neg this]
  unfold wayK
  rw [List.map_append]
  rfl
def waysS (m : Nat) (ws : List Way) (x : Str) : List Way := ws.flatMap fun w => (List.range m).map fun i => w ++ [(x, i)]
def waysU (m : Nat) (xs : List Str) : List Way := xs.foldl (waysS m) [[]]
theorem waysU_snoc (m : Nat) (xs : List Str) (x : Str) : waysU m (xs ++ [x]) = waysS m (waysU m xs) x := by
  unfold waysU
  rw [List.foldl_append]
  rfl
theorem waysS_len (m : Nat) (ws : List Way) (x : Str) : (waysS m ws x).length = ws.length * m := by
  unfold waysS
  induction ws with
  | nil => simp
  | cons a r ih => rw [List.flatMap_cons, List.length_append, ih, List.length_map, List.length_range, List.length_cons, Nat.add_mul, Nat.one_mul, Nat.add_comm]
theorem foldl_ways_len (m : Nat) : ∀ (xs : List Str) (ws : List Way), (xs.foldl (waysS m) ws).length = ws.length * m ^ xs.length
  | [], ws => by simp
  | x :: r, ws => by
    rw [List.foldl_cons, foldl_ways_len m r, waysS_len, List.length_cons, Nat.pow_succ, Nat.mul_assoc, Nat.mul_comm (m ^ r.length)]
theorem waysU_len (m : Nat) (xs : List Str) : (waysU m xs).length = m ^ xs.length := by
  unfold waysU
  rw [foldl_ways_len, List.length_singleton, Nat.one_mul]
theorem waysU_le {m : Nat} {xs : List Str} (h : m ≤ 4) (hx : xs.length ≤ 6) : (waysU m xs).length ≤ 4096 := by
  rw [waysU_len]
  calc m ^ xs.length ≤ 4 ^ xs.length := Nat.pow_le_pow_left h _
    _ ≤ 4 ^ 6 := Nat.pow_le_pow_right (by decide) hx
    _ = 4096 := by decide
theorem foldl_ways_mem (m : Nat) : ∀ (xs : List Str) (ws : List Way) (pre : List Str), (∀ w ∈ ws, w.map (·.1) = pre ∧ ∀ p ∈ w, p.2 < m) → ∀ w ∈ xs.foldl (waysS m) ws, w.map (·.1) = pre ++ xs ∧ ∀ p ∈ w, p.2 < m
  | [], ws, pre, h => fun w hw => by rw [List.append_nil]; exact h w hw
  | x :: r, ws, pre, h => fun w hw => by
    rw [List.foldl_cons] at hw
    have := foldl_ways_mem m r (waysS m ws x) (pre ++ [x]) (fun w hw => by
      unfold waysS at hw
      obtain ⟨a, ha, hw⟩ := List.mem_flatMap.mp hw
      obtain ⟨i, hi, rfl⟩ := List.mem_map.mp hw
      obtain ⟨h1, h2⟩ := h a ha
      refine ⟨by rw [List.map_append, h1]; rfl, fun p hp => ?_⟩
      rcases List.mem_append.mp hp with hp | hp
      · exact h2 p hp
      · rw [List.mem_singleton.mp hp]; exact List.mem_range.mp hi) w hw
    rwa [List.append_assoc] at this
theorem waysU_mem {m : Nat} {xs : List Str} {w : Way} (h : w ∈ waysU m xs) : w.map (·.1) = xs ∧ ∀ p ∈ w, p.2 < m :=
  foldl_ways_mem m xs [[]] [] (fun w hw => by rw [List.mem_singleton.mp hw]; exact ⟨rfl, fun p hp => nomatch hp⟩) w h
theorem wayO_of {m : Nat} {w : Way} {x : Str} (h : x ∈ w.map (·.1)) (hm : ∀ p ∈ w, p.2 < m) : ∃ i, i < m ∧ wayO w x = some i := by
  obtain ⟨p, hp, rfl⟩ := List.mem_map.mp h
  unfold wayO
  cases e : w.find? (fun q => decide (q.1 = p.1)) with
  | none =>
    have := List.find?_eq_none.mp e p hp
    simp at this
  | some q => exact ⟨q.2, hm q (List.mem_of_find?_eq_some e), rfl⟩
/-- the value of a formula -/
def Fm.val (t : Tbv) (w : Way) : Fm → Nat
  | .lt x => (wayO w x).getD 0
  | .ng p => t.nt (Fm.val t w p)
  | .im p q => t.im (Fm.val t w p) (Fm.val t w q)
def Cov (m : Nat) (w : Way) (f : Fm) : Prop := ∀ x ∈ f.lets, ∃ i, i < m ∧ wayO w x = some i
theorem cov_of {m : Nat} {xs : List Str} {w : Way} {f : Fm} (h : w ∈ waysU m xs) (hx : ∀ x ∈ f.lets, x ∈ xs) : Cov m w f := fun x hl => by
  obtain ⟨h1, h2⟩ := waysU_mem h
  exact wayO_of (by rw [h1]; exact hx x hl) h2
theorem Fm.val_lt {t : Tbv} (g : t.Gd) {w : Way} : ∀ {f : Fm}, Cov t.many w f → f.val t w < t.many
  | .lt x, c => by
    obtain ⟨i, hi, e⟩ := c x (List.mem_singleton.mpr rfl)
    show (wayO w x).getD 0 < t.many
    rw [e]; exact hi
  | .ng p, c => t.nt_lt g (Fm.val_lt g (f := p) c)
  | .im p q, c => t.im_lt g (Fm.val_lt g (f := p) fun x hx => c x (List.mem_append.mpr (.inl hx))) (Fm.val_lt g (f := q) fun x hx => c x (List.mem_append.mpr (.inr hx)))
/-- a formula is kept: its letters are xs -/
def Tbv.kept (t : Tbv) (f : Fm) (xs : List Str) : Bool := (waysU t.many xs).all fun w => decide (f.val t w ∈ t.des)
/-! ### tables of values: in the heap -/
section
variable {K : PySem.W.Frag} {H H' : Hp} {S : List Addr}
theorem dtAll_ns : ∀ {r : List Nat} {vs : List V}, DtAll K H vs (r.map nI) → vs = r.map nV
  | [], _, h => by cases h; rfl
  | n :: r, _, h => by
    cases h with
    | cons p q =>
      cases p
      rw [dtAll_ns q]
      rfl
theorem mk_nsA : ∀ (r : List Nat), DtAll K H (r.map nV) (r.map nI)
  | [] => .nil
  | n :: r => .cons (.int _) (mk_nsA r)
theorem dt_ns {r : List Nat} {v : V} (h : Dt K H v (nsD r)) : ∃ a, v = .ref a ∧ SqT K H a (r.map nV) := by
  obtain ⟨a, xs, rfl, h1, h2⟩ := h.tupI
  rw [dtAll_ns h2] at h1
  exact ⟨a, rfl, h1⟩
theorem mk_ns {r : List Nat} {a : Addr} (h : SqT K H a (r.map nV)) : Dt K H (.ref a) (nsD r) := .tup h (mk_nsA r)
/-- a table at v -/
theorem tbv_dt {t : Tbv} {v : V} (h : Dt K H v t.d) : ∃ (a de n i : Addr) (rows : List V), v = .ref a ∧ SqT K H a [.str "table", nV t.many, .ref de, .ref n, .ref i] ∧ SqT K H de (t.des.map nV) ∧ SqT K H n (t.nots.map nV) ∧ SqT K H i rows ∧ DtAll K H rows (t.ifs.map nsD) := by
  obtain ⟨a, xs, rfl, h1, h2⟩ := h.tupI
  cases h2 with
  | cons p1 h2 =>
  cases h2 with
  | cons p2 h2 =>
  cases h2 with
  | cons p3 h2 =>
  cases h2 with
  | cons p4 h2 =>
  cases h2 with
  | cons p5 h2 =>
  cases h2
  cases p1
  cases p2
  obtain ⟨de, rfl, h3⟩ := dt_ns p3
  obtain ⟨n, rfl, h4⟩ := dt_ns p4
  obtain ⟨i, rows, rfl, h5, h6⟩ := p5.tupI
  exact ⟨a, de, n, i, rows, rfl, h1, h3, h4, h5, h6⟩
theorem mk_tbv {t : Tbv} {a de n i : Addr} {rows : List V} (h1 : SqT K H a [.str "table", nV t.many, .ref de, .ref n, .ref i]) (h3 : SqT K H de (t.des.map nV)) (h4 : SqT K H n (t.nots.map nV)) (h5 : SqT K H i rows) (h6 : DtAll K H rows (t.ifs.map nsD)) : Dt K H (.ref a) t.d :=
  .tup h1 (.cons (.str _) (.cons (.int _) (.cons (mk_ns h3) (.cons (mk_ns h4) (.cons (.tup h5 h6) .nil)))))
theorem tbv_row {t : Tbv} {rows : List V} (h : DtAll K H rows (t.ifs.map nsD)) {i : Nat} {r : List Nat} (hi : t.ifs[i]? = some r) : ∃ a, rows[i]? = some (.ref a) ∧ SqT K H a (r.map nV) := by
  obtain ⟨v, e, hv⟩ := h.get (i := i) (d := nsD r) (by rw [List.getElem?_map, hi]; rfl)
  obtain ⟨a, rfl, ha⟩ := dt_ns hv
  exact ⟨a, e, ha⟩
/-- the heap behind {**e, k: v} -/
theorem dm_gr {H : Hp} {d b : Addr} {kvs kvs2 l : List (Key × V)} (hd : H d = none) (hb : upd (upd H d (.dK [])) d (.dK kvs) b = none) : b ≠ d ∧ Gr H (upd (upd (upd (upd (upd H d (.dK [])) d (.dK kvs)) b (.dK [])) b (.dK l)) d (.dK kvs2)) := by
  have nbd : b ≠ d := fun e => by rw [e, upd_same] at hb; cases hb
  have hbH : H b = none := by rw [upd_ne nbd, upd_ne nbd] at hb; exact hb
  refine ⟨nbd, ?_⟩
  have g1 : Gr H (upd H d (.dK [])) := Gx.new hd
  have g2 : Gx [d, b] (upd H d (.dK [])) (upd (upd H d (.dK [])) d (.dK kvs)) := (Gx.set upd_same rfl).mono fun a m => by rw [List.mem_singleton.mp m]; exact List.mem_cons_self
  have g3 : Gx [d, b] (upd (upd H d (.dK [])) d (.dK kvs)) (upd (upd (upd H d (.dK [])) d (.dK kvs)) b (.dK [])) := Gx.new hb
  have g4 : Gx [d, b] (upd (upd (upd H d (.dK [])) d (.dK kvs)) b (.dK [])) (upd (upd (upd (upd H d (.dK [])) d (.dK kvs)) b (.dK [])) b (.dK l)) := (Gx.set upd_same rfl).mono fun a m => by rw [List.mem_singleton.mp m]; exact List.mem_cons_of_mem _ List.mem_cons_self
  have e5 : (upd (upd (upd (upd H d (.dK [])) d (.dK kvs)) b (.dK [])) b (.dK l)) d = some (.dK kvs) := by rw [upd_ne (Ne.symm nbd), upd_ne (Ne.symm nbd), upd_same]
  have g5 : Gx [d, b] _ _ := (Gx.set (p := d) (o := .dK kvs2) e5 rfl).mono fun a m => by rw [List.mem_singleton.mp m]; exact List.mem_cons_self
  refine g1.drop (((g2.trans g3).trans g4).trans g5) fun a m => .inr ?_
  rcases List.mem_cons.mp m with rfl | m
  · exact hd
  · rw [List.mem_singleton.mp m]; exact hbH
theorem inV_nats (n : Nat) : ∀ r : List Nat, inV (nV n) (r.map nV) = decide (n ∈ r)
  | [] => rfl
  | m :: row => by
    have ih := inV_nats n row
    unfold inV at ih ⊢
    rw [List.map_cons, List.any_cons, ih]
    by_cases h : m = n
    · subst h; simp [eqV, nV]
    · have h2 : ¬ n = m := fun e => h e.symm
      have h3 : ¬ (m : Int) = (n : Int) := fun e => h (by omega)
      simp [eqV, nV, h, h2, h3]
theorem flat_nats (r : List Nat) : (r.map nV).all flatV = true := by
  rw [List.all_map]
  exact List.all_eq_true.mpr fun x _ => rfl
/-- a list of ways -/
def WsV (H : Hp) : List V → List Way → Prop
  | [], [] => True
  | v :: vs, w :: ws => (∃ d, v = .ref d ∧ H d = some (.dK (wayK w))) ∧ WsV H vs ws
  | _, _ => False
theorem WsV.len : ∀ {vs : List V} {ws : List Way}, WsV H vs ws → vs.length = ws.length
  | [], [], _ => rfl
  | _ :: _, _ :: _, ⟨_, h⟩ => by rw [List.length_cons, List.length_cons, WsV.len h]
  | [], _ :: _, h => h.elim
  | _ :: _, [], h => h.elim
theorem WsV.get : ∀ {vs : List V} {ws : List Way} {i : Nat} {v : V}, WsV H vs ws → vs[i]? = some v → ∃ d w, v = .ref d ∧ ws[i]? = some w ∧ H d = some (.dK (wayK w))
  | _ :: _, w :: _, 0, _, ⟨⟨d, e, h⟩, _⟩, hi => by cases hi; exact ⟨d, w, e, rfl, h⟩
  | _ :: _, _ :: _, i + 1, _, ⟨_, h⟩, hi => WsV.get (i := i) h hi
  | [], [], _, _, _, hi => by cases hi
  | [], _ :: _, _, _, h, _ => h.elim
  | _ :: _, [], _, _, h, _ => h.elim
theorem WsV.app : ∀ {vs us : List V} {ws ys : List Way}, WsV H vs ws → WsV H us ys → WsV H (vs ++ us) (ws ++ ys)
  | [], _, [], _, _, h => h
  | _ :: _, _, _ :: _, _, ⟨a, h⟩, k => ⟨a, WsV.app h k⟩
  | [], _, _ :: _, _, h, _ => h.elim
  | _ :: _, _, [], _, h, _ => h.elim
theorem WsV.gx (x : Gx S H H') : ∀ {vs : List V} {ws : List Way}, (∀ a ∈ S, ∀ kvs, H a ≠ some (.dK kvs)) → WsV H vs ws → WsV H' vs ws
  | [], [], _, _ => True.intro
  | _ :: _, _ :: _, n, ⟨⟨d, e, h⟩, k⟩ => ⟨⟨d, e, x.keep d _ (fun m => n d m _ h) h fun ps e => nomatch e⟩, WsV.gx x n k⟩
  | [], _ :: _, _, h => h.elim
  | _ :: _, [], _, h => h.elim
theorem WsV.gr (x : Gr H H') {vs : List V} {ws : List Way} (h : WsV H vs ws) : WsV H' vs ws := h.gx x fun a m => nomatch m
end
end Cs

namespace Cs
open PySem PySem.Spec PyProof.Rows L2
/-! ### zip of two tuples of any lengths in a generator expression; t[1:] of any tuple -/
theorem gt_zipM {K : PySem.W.Frag} {a b : Addr} {xs zs : List V} {E : Eat} {Qe : List V → Hp → Prop} {g : TG} {tt : L2.TT} {te : TE} {vs : List Nat} {σ : L2.St} {H : Hp} (Pv : Nat → List V → Hp → Prop) (h0 : Pv 0 [] H)
    (hl : ∀ i ys H, i ≤ min xs.length zs.length → Pv i ys H → SqT K H a xs ∧ SqT K H b zs)
    (hs : ∀ i x z ys T H, xs[i]? = some x → zs[i]? = some z → Pv i ys H → H T = none → g (.ref T) (wipe σ vs) (upd H T (.tup [x, z])) fun σ2 H2 => wipe σ2 vs = wipe σ vs ∧ tt σ2 H2 fun b H3 => if b = true then te σ2 H3 fun y H4 => E ys y H4 (Pv (i + 1) (ys ++ [y]) H4) else Pv (i + 1) ys H3)
    (hd : ∀ ys H, Pv (min xs.length zs.length) ys H → Qe ys H) : ∃ W, (∃ m, W 0 m [] H) ∧ GTurn E Qe (RZ.ItzT K a b) g tt te (wipe σ vs) vs W := by
  refine ⟨fun i m ys H => m = min xs.length zs.length - i ∧ i ≤ min xs.length zs.length ∧ Pv i ys H, ⟨min xs.length zs.length, by simp, Nat.zero_le _, h0⟩, ?_⟩
  rintro i m ys H ⟨rfl, hi, p⟩
  obtain ⟨q, q2⟩ := hl i ys H hi p
  by_cases hlt : i < min xs.length zs.length
  · have hlt1 : i < xs.length := by omega
    have hlt2 : i < zs.length := by omega
    refine .inr ⟨⟨xs, zs, xs[i], zs[i], q, q2, by simp [hlt1], by simp [hlt2]⟩, Pv (i + 1), fun ys' H' p' => ⟨min xs.length zs.length - (i + 1), by omega, rfl, hlt, p'⟩, fun x H' y => ?_⟩
    obtain ⟨T, x1, z1, rfl, hT, rfl, f1, f2⟩ := y
    exact hs i x1 z1 ys T H (f1 xs q) (f2 zs q2) p hT
  · have e : i = min xs.length zs.length := by omega
    subst e
    exact .inl ⟨⟨xs, zs, q, q2, by omega⟩, hd ys H p⟩
/-- t[lo:hi], be it the whole or not -/
def rSlG (K : PySem.W.Frag) : V → Option Int → Option Int → Hp → VK → Prop := fun x lo hi H Q => ∃ a xs, x = .ref a ∧ SqT K H a xs ∧ ∀ c H', Gr H H' → SqT K H' c (cutV xs lo hi) → Q (.ref c) H'
/-- t + u, of any lengths -/
def rCatG (K : PySem.W.Frag) : R2 := fun x y H Q => ∃ a b xs ys, x = .ref a ∧ y = .ref b ∧ SqT K H a xs ∧ SqT K H b ys ∧ xs.length + ys.length ≤ sizeLine ∧ ∀ c H', Gr H H' → SqT K H' c (xs ++ ys) → Q (.ref c) H'
theorem cutV_whole {xs : List V} {lo hi : Option Int} (w : HT.sIx xs.length 0 lo = 0 ∧ HT.sIx xs.length xs.length hi = xs.length) : cutV xs lo hi = xs := by
  unfold cutV
  rw [w.1, w.2]
  simp
theorem cutV_tl (xs : List V) : cutV xs (some 1) none = xs.tail := by
  cases xs with
  | nil => rfl
  | cons x r => exact cut_tl x r
section
variable {X : Cx} {K : PySem.W.Frag}
theorem sl_tupG : SlR X (rSlG X.K) := by
  intro pins s σ H x v vl vu lo hi sl Q I rx hs pl pu h
  obtain ⟨a, xs, rfl, hx, q⟩ := h
  exact sl_tupA pins s σ H _ v vl vu lo hi sl Q I rx hs pl pu ⟨a, xs, rfl, hx, fun w => q a H Gx.refl (by rw [cutV_whole w]; exact hx), fun _ p hp => q p _ (Gx.new hp) (SqT.of upd_same)⟩
theorem sl_tupGK (hK : X.K = K) : SlR X (rSlG K) := by subst hK; exact sl_tupG
theorem op_catG : OpR X (binaryOp .Add) (rCatG X.K) := by
  intro pins s σ H x y v u Q I rx ry h
  obtain ⟨a, b, xs, ys, rfl, rfl, ha, hb, hz, q⟩ := h
  refine op_catA pins s σ H _ _ v u Q I rx ry ⟨a, b, xs, ys, rfl, rfl, ha, hb, hz, fun e => q b H Gx.refl (by rw [e, List.nil_append]; exact hb), fun _ e => q a H Gx.refl (by rw [e, List.append_nil]; exact ha), fun _ _ p hp => q p _ (Gx.new hp) (SqT.of upd_same)⟩
theorem op_catGK (hK : X.K = K) : OpR X (binaryOp .Add) (rCatG K) := by subst hK; exact op_catG
end
/-! ### what may be a table: plain -/
structure Tc where
  many : Int
  des : List Int
  nots : Option (List Int)
  ifs : List (List Int)
def inR (m i : Int) : Bool := decide (0 ≤ i) && decide (i < m)
def rowOk (m : Int) (r : List Int) : Bool := decide ((r.length : Int) = m) && r.all (inR m)
def rise (r : List Int) : Bool := (r.zip r.tail).all fun p => decide (p.1 < p.2)
def Tc.ok (c : Tc) : Bool := decide (1 ≤ c.many) && decide (c.many ≤ 4) && c.des.all (inR c.many) && rise c.des && (match c.nots with | none => false | some r => rowOk c.many r) && decide ((c.ifs.length : Int) = c.many) && c.ifs.all (rowOk c.many)
def okO : Option Tc → Bool
  | none => false
  | some c => c.ok
theorem rise_iff (r : List Int) : rise r = true ↔ ∀ (k : Nat) (x y : Int), r[k]? = some x → r[k + 1]? = some y → x < y := by
  unfold rise
  rw [List.all_eq_true]
  constructor
  · intro h k x y hx hy
    have : (x, y) ∈ r.zip r.tail := List.mem_of_getElem? (i := k) (by rw [List.getElem?_zip_eq_some]; exact ⟨hx, by rw [List.getElem?_tail]; exact hy⟩)
    exact of_decide_eq_true (h _ this)
  · intro h p hp
    obtain ⟨k, hk⟩ := List.mem_iff_getElem?.mp hp
    rw [List.getElem?_zip_eq_some] at hk
    exact decide_eq_true (h k p.1 p.2 hk.1 (by rw [← List.getElem?_tail]; exact hk.2))
theorem inR_iff {m i : Int} : inR m i = true ↔ 0 ≤ i ∧ i < m := by
  unfold inR
  rw [Bool.and_eq_true, decide_eq_true_iff, decide_eq_true_iff]
def natsOf (r : List Int) : List Nat := r.map Int.toNat
theorem natsOf_ints {m : Int} {r : List Int} (h : r.all (inR m) = true) : (natsOf r).map nV = r.map V.int := by
  unfold natsOf
  rw [List.map_map]
  refine List.map_congr_left fun i hi => ?_
  have := (inR_iff.mp (List.all_eq_true.mp h i hi)).1
  show V.int ((i.toNat : Nat) : Int) = V.int i
  rw [Int.toNat_of_nonneg this]
theorem natsOf_lt {m : Int} {r : List Int} (h : r.all (inR m) = true) : ∀ i ∈ natsOf r, i < m.toNat := fun i hi => by
  obtain ⟨z, hz, rfl⟩ := List.mem_map.mp hi
  have := inR_iff.mp (List.all_eq_true.mp h z hz)
  omega
/-- the table that it is -/
def Tc.tb (c : Tc) : Tbv := ⟨c.many.toNat, natsOf c.des, natsOf (c.nots.getD []), c.ifs.map natsOf⟩
theorem Tc.ok_iff {c : Tc} : c.ok = true ↔ 1 ≤ c.many ∧ c.many ≤ 4 ∧ c.des.all (inR c.many) = true ∧ rise c.des = true ∧ (∃ r, c.nots = some r ∧ rowOk c.many r = true) ∧ (c.ifs.length : Int) = c.many ∧ c.ifs.all (rowOk c.many) = true := by
  unfold Tc.ok
  simp only [Bool.and_eq_true, decide_eq_true_iff]
  constructor
  · rintro ⟨⟨⟨⟨⟨⟨h1, h2⟩, h3⟩, h4⟩, h5⟩, h6⟩, h7⟩
    refine ⟨h1, h2, h3, h4, ?_, h6, h7⟩
    cases e : c.nots with
    | none => rw [e] at h5; cases h5
    | some r => rw [e] at h5; exact ⟨r, rfl, h5⟩
  · rintro ⟨h1, h2, h3, h4, ⟨r, e, h5⟩, h6, h7⟩
    exact ⟨⟨⟨⟨⟨⟨h1, h2⟩, h3⟩, h4⟩, by rw [e]; exact h5⟩, h6⟩, h7⟩
theorem rowOk_iff {m : Int} {r : List Int} : rowOk m r = true ↔ (r.length : Int) = m ∧ r.all (inR m) = true := by
  unfold rowOk
  rw [Bool.and_eq_true, decide_eq_true_iff]
theorem Tc.gd {c : Tc} (h : c.ok = true) : c.tb.Gd := by
  obtain ⟨h1, h2, h3, h4, ⟨r, e, h5⟩, h6, h7⟩ := Tc.ok_iff.mp h
  obtain ⟨h8, h9⟩ := rowOk_iff.mp h5
  refine ⟨?_, ?_, natsOf_lt h3, ?_, ?_, ?_, fun s hs => ?_⟩
  · show 1 ≤ c.many.toNat; omega
  · show c.many.toNat ≤ 4; omega
  · show (natsOf (c.nots.getD [])).length = c.many.toNat
    rw [e]; unfold natsOf; rw [List.length_map]; show r.length = _; omega
  · show ∀ i ∈ natsOf (c.nots.getD []), i < c.many.toNat
    rw [e]; exact natsOf_lt h9
  · show (c.ifs.map natsOf).length = c.many.toNat
    rw [List.length_map]; omega
  · obtain ⟨z, hz, rfl⟩ := List.mem_map.mp hs
    obtain ⟨k1, k2⟩ := rowOk_iff.mp (List.all_eq_true.mp h7 z hz)
    refine ⟨?_, natsOf_lt k2⟩
    show (natsOf z).length = c.many.toNat
    unfold natsOf; rw [List.length_map]; omega
/-! ### what may be a table: in the heap -/
def isD (r : List Int) : PyData := .tuple (r.map PyData.int)
section
variable {K : PySem.W.Frag} {H H' : Hp} {b : Addr}
theorem dtAll_is : ∀ {r : List Int} {vs : List V}, DtAll K H vs (r.map PyData.int) → vs = r.map V.int
  | [], _, h => by cases h; rfl
  | n :: r, _, h => by
    cases h with
    | cons p q =>
      cases p
      rw [dtAll_is q]
      rfl
theorem mk_isA : ∀ (r : List Int), DtAll K H (r.map V.int) (r.map PyData.int)
  | [] => .nil
  | n :: r => .cons (.int _) (mk_isA r)
theorem dt_is {r : List Int} {v : V} (h : Dt K H v (isD r)) : ∃ a, v = .ref a ∧ SqT K H a (r.map V.int) := by
  obtain ⟨a, xs, rfl, h1, h2⟩ := h.tupI
  rw [dtAll_is h2] at h1
  exact ⟨a, rfl, h1⟩
theorem mk_is {r : List Int} {a : Addr} (h : SqT K H a (r.map V.int)) : Dt K H (.ref a) (isD r) := .tup h (mk_isA r)
/-- a row, or a list in its place -/
inductive RowC (K : PySem.W.Frag) (b : Addr) (H : Hp) : V → Option (List Int) → Prop
  | tup {a : Addr} {r : List Int} : SqT K H a (r.map V.int) → RowC K b H (.ref a) (some r)
  | lst {a : Addr} {xs : List V} : H a = some (.lst xs) → a ≠ b → RowC K b H (.ref a) none
theorem RowC.gx (x : Gx [b] H H') {v : V} {o : Option (List Int)} (h : RowC K b H v o) : RowC K b H' v o := by
  cases h with
  | tup h => exact .tup (x.sqT h)
  | lst h n => exact .lst (x.lst h (by simp [n])) n
def rowO (m : Int) : Option (List Int) → Bool
  | none => false
  | some r => rowOk m r
inductive Cand (K : PySem.W.Frag) (b : Addr) (H : Hp) : V → Option Tc → Prop
  | non : Cand K b H .non none
  | int (i : Int) : Cand K b H (.int i) none
  | str (s : Str) : Cand K b H (.str s) none
  | tup {a : Addr} {xs : List V} : SqT K H a xs → xs.length ≠ 5 → Cand K b H (.ref a) none
  | tab {a de i : Addr} {n : V} {rows : List V} {c : Tc} : SqT K H a [.str "table", .int c.many, .ref de, n, .ref i] → SqT K H de (c.des.map V.int) → RowC K b H n c.nots → SqT K H i rows → DtAll K H rows (c.ifs.map isD) → Cand K b H (.ref a) (some c)
theorem Cand.gx (x : Gx [b] H H') {v : V} {o : Option Tc} (h : Cand K b H v o) : Cand K b H' v o := by
  cases h with
  | non => exact .non
  | int i => exact .int i
  | str s => exact .str s
  | tup h n => exact .tup (x.sqT h) n
  | tab h1 h2 h3 h4 h5 => exact .tab (x.sqT h1) (x.sqT h2) (h3.gx x) (x.sqT h4) (x.dts h5)
theorem Cand.gr (x : Gr H H') {v : V} {o : Option Tc} (h : Cand K b H v o) : Cand K b H' v o := h.gx (Gx.wk x)
theorem rows_nats {m : Int} : ∀ {ifs : List (List Int)} {rows : List V}, ifs.all (rowOk m) = true → DtAll K H rows (ifs.map isD) → DtAll K H rows ((ifs.map natsOf).map nsD)
  | [], _, _, h => by cases h; exact .nil
  | r :: ifs, _, hr, h => by
    rw [List.all_cons, Bool.and_eq_true] at hr
    cases h with
    | cons p q =>
      obtain ⟨a, rfl, ha⟩ := dt_is p
      exact .cons (mk_ns (by rw [natsOf_ints (rowOk_iff.mp hr.1).2]; exact ha)) (rows_nats hr.2 q)
theorem Cand.dt {v : V} {c : Tc} (h : Cand K b H v (some c)) (k : c.ok = true) : Dt K H v c.tb.d := by
  obtain ⟨h1, h2, h3, h4, ⟨r, e, h5⟩, h6, h7⟩ := Tc.ok_iff.mp k
  cases h with
  | tab a1 a2 a3 a4 a5 =>
    rw [e] at a3
    cases a3 with
    | tup a3 =>
      refine mk_tbv (t := c.tb) ?_ (by show SqT K H _ ((natsOf c.des).map nV); rw [natsOf_ints h3]; exact a2) (by show SqT K H _ ((natsOf (c.nots.getD [])).map nV); rw [e]; show SqT K H _ ((natsOf r).map nV); rw [natsOf_ints (rowOk_iff.mp h5).2]; exact a3) a4 (rows_nats h7 a5)
      show SqT K H _ [.str "table", .int ((c.many.toNat : Nat) : Int), _, _, _]
      rw [Int.toNat_of_nonneg (by omega)]
      exact a1
end
/-- a table as one that may be one -/
def Tbv.tc (T : Tbv) : Tc := ⟨T.many, T.des.map (fun n : Nat => (n : Int)), some (T.nots.map (fun n : Nat => (n : Int))), T.ifs.map fun r => r.map (fun n : Nat => (n : Int))⟩
theorem nV_ints (r : List Nat) : r.map nV = (r.map (fun n : Nat => (n : Int))).map V.int := by
  rw [List.map_map]; rfl
theorem rows_ints {K : PySem.W.Frag} {H : Hp} : ∀ {ifs : List (List Nat)} {rows : List V}, DtAll K H rows (ifs.map nsD) → DtAll K H rows ((ifs.map fun r => r.map (fun n : Nat => (n : Int))).map isD)
  | [], _, h => by cases h; exact .nil
  | r :: ifs, _, h => by
    cases h with
    | cons p q =>
      obtain ⟨a, rfl, ha⟩ := dt_ns p
      exact .cons (mk_is (by rw [← nV_ints]; exact ha)) (rows_ints q)
theorem cand_tb {K : PySem.W.Frag} {b : Addr} {H : Hp} {T : Tbv} {v : V} (h : Dt K H v T.d) : Cand K b H v (some T.tc) := by
  obtain ⟨a, de, n4, i4, rows, rfl, h1, h2, h3, h4, h5⟩ := tbv_dt h
  exact .tab (c := T.tc) h1 (by show SqT K H de ((T.des.map _).map V.int); rw [← nV_ints]; exact h2) (.tup (by rw [← nV_ints]; exact h3)) h4 (rows_ints h5)
theorem rows0 {K : PySem.W.Frag} {H : Hp} {ifs : List (List Int)} {rows : List V} (hl : 1 ≤ ifs.length) (h : DtAll K H rows (ifs.map isD)) : ∃ (r0 : List Int) (rest : List (List Int)) (ra : Addr) (rr : List V), ifs = r0 :: rest ∧ rows = .ref ra :: rr ∧ SqT K H ra (r0.map V.int) ∧ DtAll K H rr (rest.map isD) := by
  cases ifs with
  | nil => exact absurd hl (by decide)
  | cons r0 rest =>
    cases h with
    | cons p q =>
      obtain ⟨a, rfl, ha⟩ := dt_is p
      exact ⟨r0, rest, a, _, rfl, rfl, ha, q⟩
/-! ### a formula that a table keeps, of the formula alone -/
open Classical in
noncomputable def Tbv.keptF (T : Tbv) (f : Fm) : Bool := if h : ∃ xs : List Str, sortedS xs = true ∧ xs.Nodup ∧ ∀ y, y ∈ xs ↔ y ∈ f.lets then T.kept f (Classical.choose h) else false
theorem Tbv.keptF_eq {T : Tbv} {f : Fm} {xs : List Str} (h1 : sortedS xs = true) (h2 : xs.Nodup) (h3 : ∀ y, y ∈ xs ↔ y ∈ f.lets) : T.kept f xs = T.keptF f := by
  have h : ∃ xs : List Str, sortedS xs = true ∧ xs.Nodup ∧ ∀ y, y ∈ xs ↔ y ∈ f.lets := ⟨xs, h1, h2, h3⟩
  unfold Tbv.keptF
  rw [dif_pos h]
  obtain ⟨k1, k2, k3⟩ := Classical.choose_spec h
  rw [sorted_same h1 k1 h2 k2 fun y => (h3 y).trans (k3 y).symm]
/-- few letters, and small -/
structure Fm.Sm (f : Fm) : Prop where
  dp : f.depth ≤ 20
  sz : f.size ≤ 1000
  few : ∀ xs : List Str, xs.Nodup → (∀ x ∈ xs, x ∈ f.lets) → xs.length ≤ 6
theorem axL_lets : ∀ k f, axL.lookup k = some f → ∀ x ∈ f.lets, x ∈ (["a", "b", "c", "d"] : List Str) := by
  intro k f h
  have hm := axL_mem h
  unfold axL at hm
  simp only [List.mem_cons, List.not_mem_nil, or_false, Prod.mk.injEq] at hm
  rcases hm with ⟨rfl, rfl⟩ | ⟨rfl, rfl⟩ | ⟨rfl, rfl⟩ | ⟨rfl, rfl⟩ | ⟨rfl, rfl⟩ | ⟨rfl, rfl⟩ <;> simp [Fm.lets, fa, fb, fc, fd]
theorem ax_sm {k : Int} {f : Fm} (h : axL.lookup k = some f) : f.Sm := by
  obtain ⟨h1, h2, _⟩ := axL_ok k f h
  exact ⟨by omega, by omega, fun xs nd hx => Nat.le_trans (nodup_len xs _ nd fun x m => axL_lets k f h x (hx x m)) (by decide)⟩
def axF (k : Int) : Fm := (axL.lookup k).getD (.lt "a")
theorem axF_of {k : Int} {f : Fm} (h : axL.lookup k = some f) : axF k = f := by unfold axF; rw [h]; rfl
/-- a table keeps the rule and some axioms, and not a formula -/
noncomputable def partsB (o : Option Tc) (ks : List Fm) (f : Fm) : Bool := match o with
  | none => false
  | some c => c.ok && c.tb.rule && ks.all c.tb.keptF && !c.tb.keptF f
end Cs

namespace Cs
open PySem PySem.Spec PyProof.Rows L2 PySem.W PySem.SeqAt
/-! ### sorted of rows of numbers, the empty one first -/
theorem alike_nats : ∀ xs ys : List Nat, alikeAll (xs.map nI) (ys.map nI) = true
  | [], _ => by simp [alikeAll]
  | _ :: _, [] => by simp [alikeAll]
  | x :: xs, y :: ys => by
    show alikeAll (.int x :: xs.map nI) (.int y :: ys.map nI) = true
    rw [alikeAll, alike_nats xs ys]
    simp [alike]
theorem nsD_depth (b : List Nat) : (nsD b).depth ≤ 2 := by
  have : PyData.depthAll (b.map nI) ≤ 1 := by
    induction b with
    | nil => simp [PyData.depthAll]
    | cons n ns ih => simp only [List.map_cons, PyData.depthAll, PyData.depth, nI]; omega
  unfold nsD
  simp only [PyData.depth]; omega
theorem each_dtsN {X : Cx} {pins : List (Addr × Obj)} {σ : L2.St} {H : Hp} {s : Shared} (I : Inv X pins σ H s) : ∀ {xs : List V} {us : List Value} {ss : List (List Nat)}, Vals xs us → DtAll X.K H xs (ss.map nsD) →
    EachIs (fun u b => ∃ x, RelV x u ∧ Dt X.K H x (nsD b)) us ss ∧ EachIs (fun v b => ∃ as, Reads s.heap v (nsD b) as) us ss
  | _, _, [], .nil, .nil => ⟨.nil, .nil⟩
  | _, _, b :: ss, .cons r rr, .cons h hh => by
    obtain ⟨e1, e2⟩ := each_dtsN I rr hh
    exact ⟨.cons ⟨_, r, h⟩ e1, .cons (Dp.reads I _ _ _ (Dt.dp _ _ h) r) e2⟩
theorem dts_eachN {K : PySem.W.Frag} {H : Hp} : ∀ {us : List Value} {ss : List (List Nat)}, EachIs (fun u b => ∃ x, RelV x u ∧ Dt K H x (nsD b)) us ss → ∃ xs, Vals xs us ∧ DtAll K H xs (ss.map nsD)
  | _, _, .nil => ⟨[], .nil, .nil⟩
  | _, _, .cons ⟨x, r, h⟩ t => by
    obtain ⟨xs, a, b⟩ := dts_eachN t
    exact ⟨x :: xs, .cons r a, .cons h b⟩
noncomputable def rowSortN (ss : List (List Nat)) : List (List Nat) := ss.mergeSort (dataLe false nsD)
theorem cr_sortedRowsN {X : Cx} (hu : X.A.units + 64 < cLine) : CallR X (.builtin "sorted") (fun vs H Q => ∃ (a : Addr) (xs : List V) (ss : List (List Nat)), vs = [V.ref a] ∧ SqL X.K H a xs ∧ DtAll X.K H xs (ss.map nsD) ∧ ss.head? = some [] ∧
    ∀ (ys : List V) (p : Addr), DtAll X.K H ys ((rowSortN ss).map nsD) → H p = none → Q (.ref p) (upd H p (.lst ys))) := by
  intro pins s σ H vs us Q I r h
  obtain ⟨a, xs, ss, rfl, hs, hd, h0, q⟩ := h
  obtain ⟨its, rv, hl, hz⟩ := I.list hs
  rw [Vals.ref1 r]
  obtain ⟨e1, e2⟩ := each_dtsN I rv hd
  have hlen : its.length = ss.length := e1.length
  refine sorted_tups0 (vs := its) hl.isList e1 e2 (AllAlike.of fun b b' => by simpa [nsD, alike] using alike_nats b b') (fun b _ => ⟨_, rfl⟩) ?_ (by rw [← hlen, ← rv.length]; exact hz) (fun b _ => by have := nsD_depth b; omega) fun out h1 h2 => ?_
  · cases ss with
    | nil => cases h0
    | cons b ss => cases h0; rfl
  obtain ⟨ys, y1, y2⟩ := dts_eachN h2
  obtain ⟨ep, he'⟩ := PyProof.Rows.sortedAll_at s.heap its out.toArray
  have hly : ys.length ≤ sizeLine := by rw [y1.length, h1, ← hlen, ← rv.length]; exact hz
  exact ⟨.ref _, upd H (s.heap.objs.size + 1) (.lst ys), I.laid (t' := s.toks) (fun _ _ => PyProof.Rows.sortedAll_old) (Nat.le_succ _) ⟨hly, out, ep, y1, he'⟩, rfl, q ys _ y2 (I.hok.fresh (Nat.le_succ _))⟩
theorem sort_pair (a b : List Nat) : ([a, b] : List (List Nat)).mergeSort (dataLe false nsD) = if dataLe false nsD a b then [a, b] else [b, a] := by
  rw [List.mergeSort.eq_def]
  simp only [List.MergeSort.Internal.splitInTwo, List.splitAt_eq, List.length_cons, List.length_nil, List.take, List.drop, List.mergeSort_singleton]
  split <;> simp [*]
theorem rowSort1 : rowSortN [[], [0]] = [[], [0]] := by
  unfold rowSortN
  rw [sort_pair, show dataLe false nsD [] [0] = true by decide +kernel]
  rfl
theorem rowSort2 : rowSortN [[], [0], [1], [0, 1]] = [[], [0], [0, 1], [1]] := by
  unfold rowSortN
  rw [List.mergeSort.eq_def]
  show (List.mergeSort [[],[0]] (dataLe false nsD)).merge (List.mergeSort [[1],[0,1]] (dataLe false nsD)) (dataLe false nsD) = _
  rw [sort_pair, sort_pair, show dataLe false nsD [] [0] = true by decide +kernel, show dataLe false nsD [1] [0, 1] = false by decide +kernel]
  simp [show dataLe false nsD [] [0, 1] = true by decide +kernel, show dataLe false nsD [0] [0, 1] = true by decide +kernel]
/-! ### a range in a generator expression -/
theorem gt_range {lo : Int} {n : Nat} {E : Eat} {Qe : List V → Hp → Prop} {g : TG} {tt : L2.TT} {te : TE} {vs : List Nat} {σ : L2.St} {H : Hp} (Pv : Nat → List V → Hp → Prop) (h0 : Pv 0 [] H)
    (hs : ∀ i ys H, i < n → Pv i ys H → g (.int (lo + i)) (wipe σ vs) H fun σ2 H2 => wipe σ2 vs = wipe σ vs ∧ tt σ2 H2 fun b H3 => if b = true then te σ2 H3 fun y H4 => E ys y H4 (Pv (i + 1) (ys ++ [y]) H4) else Pv (i + 1) ys H3)
    (hd : ∀ ys H, Pv n ys H → Qe ys H) : ∃ W, (∃ m, W 0 m [] H) ∧ GTurn E Qe (Itr lo n) g tt te (wipe σ vs) vs W := by
  refine ⟨fun i m ys H => m = n - i ∧ i ≤ n ∧ Pv i ys H, ⟨n, by simp, Nat.zero_le _, h0⟩, ?_⟩
  rintro i m ys H ⟨rfl, hi, p⟩
  by_cases hlt : i < n
  · refine .inr ⟨hlt, Pv (i + 1), fun ys' H' p' => ⟨n - (i + 1), by omega, rfl, hlt, p'⟩, fun x H' y => ?_⟩
    obtain ⟨rfl, rfl⟩ := y
    exact hs i ys _ hlt p
  · have e : i = n := by omega
    subst e
    exact .inl ⟨Nat.le_refl _, hd ys H p⟩
/-! ### all tables of one or two values -/
def rowsS (m : Nat) (rs : List (List Nat)) : List (List Nat) := rs.flatMap fun r => (List.range m).map fun i => r ++ [i]
def rowsN (m : Nat) : Nat → List (List Nat)
  | 0 => [[]]
  | w + 1 => rowsS m (rowsN m w)
def chunks (m : Nat) (f : List Nat) : List (List Nat) := (List.range m).map fun o => (f.drop (m * o)).take m
def designs : List (Nat × List (List Nat)) := [(1, [[], [0]]), (2, [[], [0], [0, 1], [1]])]
def tabs4 (m : Nat) (d n : List Nat) : List (List Nat) → List Tbv := List.map fun f => ⟨m, d, n, chunks m f⟩
def tabs3 (m : Nat) (d : List Nat) : List (List Nat) → List Tbv := List.flatMap fun n => tabs4 m d n (rowsN m (m * m))
def tabs2 (m : Nat) : List (List Nat) → List Tbv := List.flatMap fun d => tabs3 m d (rowsN m m)
def tabs1 : List (Nat × List (List Nat)) → List Tbv := List.flatMap fun p => tabs2 p.1 p.2
def desD (p : Nat × List (List Nat)) : PyData := .tuple [nI p.1, .tuple (p.2.map nsD)]
theorem dt_des {K : PySem.W.Frag} {H : Hp} {v : V} {p : Nat × List (List Nat)} (h : Dt K H v (desD p)) : ∃ (a da : Addr) (dxs : List V), v = .ref a ∧ SqT K H a [nV p.1, .ref da] ∧ SqT K H da dxs ∧ DtAll K H dxs (p.2.map nsD) := by
  obtain ⟨a, xs, rfl, h1, h2⟩ := h.tupI
  cases h2 with
  | cons p1 h2 =>
  cases h2 with
  | cons p2 h2 =>
  cases h2
  cases p1
  obtain ⟨da, dxs, rfl, h3, h4⟩ := p2.tupI
  exact ⟨a, da, dxs, rfl, h1, h3, h4⟩
def longD (rows : List (List PyData)) (items : List PyData) : List (List PyData) := rows.flatMap fun r => items.map fun it => r ++ [it]
def subsN : Nat → List (List Nat)
  | 0 => [[]]
  | k + 1 => subsN k ++ (subsN k).map (· ++ [k])
def wideD (m : Nat) : Nat → List (List PyData)
  | 0 => [[]]
  | k + 1 => longD (wideD m k) ((List.range m).map nI)
def gridD (m : Nat) : Nat → List (List PyData)
  | 0 => [[]]
  | k + 1 => longD (gridD m k) ((wideD m m).map PyData.tuple)
noncomputable def tabsD (m : Nat) : List PyData := (rowSortN (subsN m)).flatMap fun d => (wideD m m).flatMap fun n => (gridD m m).map fun g => PyData.tuple [.str "table", nI m, nsD d, .tuple n, .tuple g]
theorem DtAll.rev {K : PySem.W.Frag} {H : Hp} : ∀ {ds : List PyData} {vs : List V}, DtAll K H vs ds → DtAll K H vs.reverse ds.reverse
  | [], _, h => by cases h; exact .nil
  | d :: ds, _, h => by
    cases h with
    | cons p q =>
      rw [List.reverse_cons, List.reverse_cons]
      exact (DtAll.rev q).app (.cons p .nil)
theorem tabs_fine : ∀ T ∈ tabs1 designs, T.d.depth < 65 ∧ fine T.d = true := by decide +kernel
theorem tabs_len : (tabs1 designs).length = 258 := by decide +kernel
theorem tabs_same : tabsD 1 ++ tabsD 2 = (tabs1 designs).map Tbv.d := by
  unfold tabsD
  rw [show subsN 1 = [[], [0]] from rfl, show subsN 2 = [[], [0], [1], [0, 1]] from rfl, rowSort1, rowSort2]
  rfl
end Cs

namespace Cs
open PySem PySem.Spec PyProof.Rows L2
/-! ### sorted(t), t a tuple of texts -/
section
variable {prog : Program} {w : World} {A : Around} {E : Value → Shared → Prop} {s : Shared}
theorem collect_tup {l : Addr} {vs : List Value} {Q : List Value → Shared → Prop} (hl : s.heap.IsTuple l vs.toArray)
    (h : Q vs { s with heap := (s.heap.push (seqObj "list" #[] 0)).update s.heap.objs.size (Obj.mapSeq (· ++ vs.toArray)) }) (hsz : vs.length ≤ sizeLine := by size_fits) :
    wpAny (model prog w) A (collect (.ref l)) Q E s := by
  obtain ⟨o, ho, hc, n, hd⟩ := id hl
  unfold collect
  refine wpAny_bind (wpAny_runValue (codeAny_builtin entry_proto_collect' ?_))
  show wpAny _ _ (do again (.builtin "list.__iadd__" ⟨[← newList [], .ref l], []⟩)) _ _ s
  refine wpAny_bind (wpAny_newList (wpAny_pure ⟨Code.quiet_builtin _ (by decide +kernel), codeAny_builtin entry_list_iadd' ?_⟩))
  show wpAny _ _ (Builtin.List.listExtendWith (.ref s.heap.objs.size) (.ref l) (.ref s.heap.objs.size)) _ _ { s with heap := s.heap.push (seqObj "list" #[] 0) }
  unfold Builtin.List.listExtendWith
  have ho' : (s.heap.push (seqObj "list" #[] 0)).get? l = some o := Heap.get?_push_of_some _ ho
  refine wpAny_bind (wpAny_typeOf (T := "tuple") ⟨o, ho', hc⟩ ?_)
  have ht : (Value.type "tuple" == Value.type "tuple") = true := by rfl
  rw [if_pos (by rw [ht]; simp)]
  refine wpAny_bind (listItems_at ho' hd ?_)
  refine wpAny_bind (listItems_at (xs := #[]) (n := 0) (Heap.get?_push_size _ rfl) rfl ?_)
  rw [if_neg (by simp)]
  refine wpAny_bind (listUpdate_at (xs := #[]) (n := 0) (Heap.get?_push_size _ rfl) rfl ?_ (Nat.zero_le _) (by show (#[] ++ vs.toArray).size ≤ sizeLine + 1; simp only [Array.size_append, List.size_toArray]; simp; omega))
  refine wpAny_pure ?_
  show wpAny (model prog w) A (do
      let o ← load s.heap.objs.size
      match o.data with
      | .seq xs _ => pure xs.toList
      | _ => unsupported "internal:collect") Q E { s with heap := (s.heap.push (seqObj "list" #[] 0)).update s.heap.objs.size (Obj.mapSeq (· ++ vs.toArray)) }
  refine wpAny_bind (wpAny_load (get?_update_seq (Heap.get?_push_size _ rfl) _) ?_)
  show wpAny _ _ (pure ((#[] : Array Value) ++ vs.toArray).toList) Q E _
  rw [show ((#[] : Array Value) ++ vs.toArray).toList = vs by simp]
  exact wpAny_pure h
theorem sortedKTup {κ : KeyKind} (hO : κ.OneLt) {l : Addr} {vs : List Value} {Q : Value → Shared → Prop} (hl : s.heap.IsTuple l vs.toArray) (h0 : KeysOf κ (pairsOf vs)) (hkk : ∀ v₁ v₂ rest, vs = v₁ :: v₂ :: rest → keyKind' (v₁ :: v₂ :: rest).toArray = pure oneType') (hL : vs.length ≤ sizeLine)
    (h : ∀ st' : SortSt, (arrOf st').Perm (pairsOf vs) → SortedToK κ (arrOf st') (pairsOf vs).size → Q (.ref (s.heap.objs.size + 1)) { s with heap := sortedAll s.heap vs ((arrOf st').map (·.2)) }) :
    wpAny (model prog w) A (call (.builtin "sorted") [.ref l]) Q E s := by
  refine Calls.call_function_entry kind_sorted plain_sorted entry_sorted (args_sorted1 _) ?_
  unfold Builtin.«sorted»
  refine wpAny_bind (m := checkCount "sorted" 1 1 _) (wpAny_pure ?_)
  refine wpAny_bind (collect_tup hl ?_)
  refine wpAny_bind (wpAny_newList ?_)
  have hsz : ((s.heap.push (seqObj "list" #[] 0)).update s.heap.objs.size (Obj.mapSeq (· ++ vs.toArray))).objs.size = s.heap.objs.size + 1 := by
    rw [Heap.size_update, size_push']
  have hoL : (((s.heap.push (seqObj "list" #[] 0)).update s.heap.objs.size (Obj.mapSeq (· ++ vs.toArray))).push (seqObj "list" vs.toArray 0)).get? (s.heap.objs.size + 1) = some (seqObj "list" vs.toArray 0) := by
    rw [← hsz]; exact Heap.get?_push_size _ rfl
  show wpAny _ _ _ _ _ { s with heap := ((s.heap.push (seqObj "list" #[] 0)).update s.heap.objs.size (Obj.mapSeq (· ++ vs.toArray))).push (seqObj "list" vs.toArray 0) }
  rw [hsz]
  refine wpAny_bind (wpAny_holding (wpAny_call_entry slot_list_sort ⟨_, hoL, rfl⟩ entry_list_sort (list_sort_treeKAny hO hoL h0 hkk hL fun st' a1 a2 => ⟨_, rfl, ?_⟩) (args_list_sort _)))
  exact wpAny_pure ⟨_, rfl, h st' a1 a2⟩
theorem sorted_strsTup {l : Addr} {vs : List Value} {ss : List Str} {Q : Value → Shared → Prop} (hl : s.heap.IsTuple l vs.toArray) (hS : StrsAre vs ss) (hL : vs.length ≤ sizeLine)
    (h : ∀ (out : Array Value) (ss' : List Str), StrsAre out.toList ss' → ss'.Perm ss → sortedS ss' = true → Q (.ref (s.heap.objs.size + 1)) { s with heap := sortedAll s.heap vs out }) :
    wpAny (model prog w) A (call (.builtin "sorted") [.ref l]) Q E s := by
  refine sortedKTup strKind_oneLt hl hS.keysOf (fun v₁ v₂ rest e => keyKind_strs (by rw [← e]; exact hS)) hL fun st' hp hs => ?_
  obtain ⟨ss', h1, h2, h3⟩ := sorted_out_str hS hp hs
  exact h _ ss' h1 h2 h3
end
section
variable {X : Cx}
def rSortedTS (K : PySem.W.Frag) : List V → Hp → VK → Prop := fun vs H Q => ∃ (a : Addr) (xs : List Str), vs = [V.ref a] ∧ SqT K H a (xs.map V.str) ∧
  ∀ (ys : List Str) (p : Addr), ys.Perm xs → sortedS ys = true → H p = none → Q (.ref p) (upd H p (.lst (ys.map V.str)))
theorem cr_sortedTS : CallR X (.builtin "sorted") (rSortedTS X.K) := by
  intro pins s σ H vs us Q I r h
  obtain ⟨a, xs, rfl, hs, q⟩ := h
  obtain ⟨its, rv, hl, hz⟩ := I.tuple hs
  rw [Vals.ref1 r]
  have hlen0 := rv.length
  refine sorted_strsTup (show s.heap.IsTuple a its.toArray from hl) rv.strs (by rw [← hlen0]; exact hz) fun out ys h1 h2 h3 => ?_
  obtain ⟨ep, he'⟩ := PyProof.Rows.sortedAll_at s.heap its out
  have hlen : (ys.map V.str).length ≤ sizeLine := by rw [List.length_map, h2.length_eq, ← List.length_map (f := V.str)]; exact hz
  exact ⟨.ref _, upd H (s.heap.objs.size + 1) (.lst (ys.map V.str)), I.laid (t' := s.toks) (fun _ _ => PyProof.Rows.sortedAll_old) (Nat.le_succ _) ⟨hlen, out.toList, ep, vals_of_strs h1, he'⟩, rfl, q ys _ h2 h3 (I.hok.fresh (Nat.le_succ _))⟩
theorem cr_anyK {K : PySem.W.Frag} (hK : X.K = K) (hc : X.calm = true) : CallR X (.builtin "any") (rAny K) := by subst hK; exact cr_any hc
theorem cr_allK {K : PySem.W.Frag} (hK : X.K = K) (hc : X.calm = true) : CallR X (.builtin "all") (rAll K) := by subst hK; exact cr_all hc
/-- x in e, e a list or a tuple of data -/
def rInB (K : PySem.W.Frag) : R2 := fun x y H Q => ∃ d ds, Dp K H x d ∧ (Dp K H y (.list ds) ∨ Dp K H y (.tuple ds)) ∧ SeqAt.shaped d = true ∧ SeqAt.shaped (.list ds) = true ∧ Q (.bl (ds.any fun z => PyData.eqv z d)) H
theorem op_inB (hu : X.A.units + 65 < cLine) : OpR X (compareOp .In) (rInB X.K) := by
  intro pins s σ H x y v u Q I rx ry h
  obtain ⟨d, ds, hd, he, sd, se, q⟩ := h
  rcases he with he | he
  · exact op_inD hu pins s σ H x y v u Q I rx ry ⟨d, ds, hd, he, sd, se, q⟩
  · obtain ⟨as, r1⟩ := Dp.reads I d x v hd rx
    obtain ⟨bs, r2⟩ := Dp.reads I (.tuple ds) y u he ry
    have hl : PyData.canLayAll0 ds = true := SeqAt.canLay_of_shaped se
    exact SeqAt.in_tuple_reads r2 r1 hl (SeqAt.canLay_of_shaped sd) (room_in_shaped sd hu) ⟨.bl _, H, I, rfl, q⟩
theorem encT_eqv (a b : List Str) : PyData.eqv (encT a) (encT b) = decide (a = b) := by
  unfold encT
  rw [eqv_tup]
  induction a generalizing b with
  | nil =>
    cases b with
    | nil => rfl
    | cons y b => rfl
  | cons x a ih =>
    cases b with
    | nil => rfl
    | cons y b =>
      rw [List.map_cons, List.map_cons, eqvA_cons, eqv_str, ih]
      by_cases e : x = y
      · subst e; simp
      · simp [e]
theorem any_encT (b : List Str) : ∀ rows : List (List Str), ((rows.map encT).any fun z => PyData.eqv z (encT b)) = decide (b ∈ rows)
  | [] => by simp
  | c :: rows => by
    rw [List.map_cons, List.any_cons, any_encT b rows, encT_eqv]
    by_cases h : c = b
    · subst h; simp
    · have h2 : ¬ b = c := fun e => h e.symm
      simp [h, h2]
def RowOk (b : List Str) : Prop := ∀ x ∈ b, PyData.strOk x = true
theorem encT_lay {b : List Str} (h : RowOk b) : (encT b).canLay0 = true := by
  show PyData.canLayAll0 (b.map PyData.str) = true
  exact layAll fun d hd => by
    obtain ⟨x, hx, rfl⟩ := List.mem_map.mp hd
    exact h x hx
theorem encT_shaped {b : List Str} (h : RowOk b) : SeqAt.shaped (encT b) = true := by
  have := encT_depth b
  have h3 : (encT b).depth ≤ 64 := by omega
  unfold SeqAt.shaped
  rw [encT_lay h]
  simpa using h3
theorem encTs_shaped {rows : List (List Str)} (h : ∀ b ∈ rows, RowOk b) : SeqAt.shaped (.list (rows.map encT)) = true := by
  have h1 : PyData.canLayAll0 (rows.map encT) = true := layAll fun d hd => by
    obtain ⟨b, hb, rfl⟩ := List.mem_map.mp hd
    exact encT_lay (h b hb)
  have h2 : PyData.depthAll (rows.map encT) ≤ 2 := depthAll_le fun d hd => by
    obtain ⟨b, hb, rfl⟩ := List.mem_map.mp hd
    exact encT_depth b
  have h3 : PyData.depth (.list (rows.map encT)) ≤ 64 := by
    show PyData.depthAll (rows.map encT) + 1 ≤ 64
    omega
  unfold SeqAt.shaped
  rw [show PyData.canLay0 (.list (rows.map encT)) = true from h1]
  simpa using h3
theorem rd_inRow {K : PySem.W.Frag} {H : Hp} {u : V} {a : Addr} {xs : List V} {b : List Str} {rows : List (List Str)} {Q : VK} (hu : Dt K H u (encT b)) (hl : SqL K H a xs ∨ SqT K H a xs) (hd : DtAll K H xs (rows.map encT)) (pb : RowOk b) (pr : ∀ c ∈ rows, RowOk c) (q : Q (.bl (decide (b ∈ rows))) H) : rInB K u (.ref a) H Q := by
  refine ⟨encT b, rows.map encT, hu.dp, ?_, encT_shaped pb, encTs_shaped pr, by rw [any_encT]; exact q⟩
  rcases hl with hl | hl
  · exact .inl (dp_list hl hd)
  · exact .inr (Dt.dp _ _ (.tup hl hd))
/-- a walk over the list or the tuple at a -/
def JB (K : PySem.W.Frag) (a : Addr) (xs : List V) (H : Hp) (J : It) : Prop := (J = Itl K a ∧ SqL K H a xs) ∨ (J = Itt K a ∧ SqT K H a xs)
/-- for x in e, e a list or a tuple -/
def iBoth (K : PySem.W.Frag) (tl : TE) : TI := fun σ H R => tl σ H fun x H1 => ∃ a xs, x = .ref a ∧ (SqL K H1 a xs ∨ SqT K H1 a xs) ∧ ∀ J, JB K a xs H1 J → R J H1
theorem pi_both {tg l : Expr} {tl : TE} (hl : PE X l tl) : PI X tg l (iBoth X.K tl) := by
  refine ⟨fun pins s σ H R I h => ?_⟩
  refine thn (hl.run pins s σ H _ I h) fun v s1 ⟨x, H1, I1, r1, q1⟩ => ?_
  obtain ⟨a, xs, e, hq, q⟩ := q1
  subst e
  cases r1
  rcases hq with hq | hq
  · obtain ⟨its, rv, p, hz⟩ := I1.list hq
    refine wpAny_pyIter_list p.isList ?_
    refine ⟨s1.heap.objs.size, [s1.heap.objs.size], _, _, H1, rfl, I1.kept (t' := s1.toks) fun b o e => Heap.get?_push_of_some _ e, turn_list a _, ⟨_, Heap.get?_push_size _ rfl, rfl, rfl⟩, fun b hb => ?_, q _ (.inl ⟨rfl, hq⟩)⟩
    have e : b = s1.heap.objs.size := by simpa using hb
    subst e
    exact I1.fpOk (Nat.le_refl _) (I1.hok.fresh (Nat.le_refl _))
  · obtain ⟨its, rv, p, hz⟩ := I1.tuple hq
    refine wpAny_pyIter_tuple (show s1.heap.IsTuple a its.toArray from p) ?_
    refine ⟨s1.heap.objs.size, [s1.heap.objs.size], _, _, H1, rfl, I1.kept (t' := s1.toks) fun b o e => Heap.get?_push_of_some _ e, turn_tuple a _, ⟨_, Heap.get?_push_size _ rfl, rfl, rfl⟩, fun b hb => ?_, q _ (.inr ⟨rfl, hq⟩)⟩
    have e : b = s1.heap.objs.size := by simpa using hb
    subst e
    exact I1.fpOk (Nat.le_refl _) (I1.hok.fresh (Nat.le_refl _))
end
section
variable {K : PySem.W.Frag} {a : Addr} {xs : List V} {H Hb : Hp} {J : It}
theorem turns_both {Body : V → Hp → (Hp → Prop) → Prop} {Done : Hp → Prop} {H0 : Hp} (hJ : JB K a xs Hb J) (Pv : Nat → Hp → Prop) (h0 : Pv 0 H0) (hg : ∀ i H, i ≤ xs.length → Pv i H → Gr Hb H) (hs : ∀ i x H, xs[i]? = some x → Pv i H → Body x H (Pv (i + 1))) (hd : ∀ H, Pv xs.length H → Done H) : Turns J Body H0 Done := by
  rcases hJ with ⟨rfl, h⟩ | ⟨rfl, h⟩
  · exact turns_list Pv h0 (fun i H hi p => (hg i H hi p).sqG h) hs hd
  · exact turns_tup Pv h0 (fun i H hi p => (hg i H hi p).sqT h) hs hd
theorem for_both {g : TG} {tb : TS} {D : Ends} {σ : L2.St} (hJ : JB K a xs Hb J) (Pv : Nat → L2.St → Hp → Prop) (h0 : Pv 0 σ H) (hg : ∀ i σ H, i ≤ xs.length → Pv i σ H → Gr Hb H)
    (hs : ∀ i x σ H, xs[i]? = some x → Pv i σ H → g x σ H fun σ2 H2 => tb { D with nx := Pv (i + 1), ct := Pv (i + 1), bk := D.nx } σ2 H2) (hd : ∀ σ H, Pv xs.length σ H → D.nx σ H) :
    ∃ W : Nat → Nat → L2.St → Hp → Prop, (∃ m, W 0 m σ H) ∧ ∀ i m σ H, W i m σ H →
      (J.stop i H ∧ D.nx σ H) ∨ (J.go i H ∧ ∃ N : L2.St → Hp → Prop, (∀ σ' H', N σ' H' → ∃ m', m' < m ∧ W (i + 1) m' σ' H') ∧ ∀ x H', J.yld i H x H' → g x σ H' fun σ2 H2 => tb { D with nx := N, ct := N, bk := D.nx } σ2 H2) := by
  rcases hJ with ⟨rfl, h⟩ | ⟨rfl, h⟩
  · exact for_list Pv h0 (fun i σ H hi p => (hg i σ H hi p).sqG h) hs hd
  · exact for_tup Pv h0 (fun i σ H hi p => (hg i σ H hi p).sqT h) hs hd
end
/-! ### rows and formulas, plain -/
theorem ev_congr {f : Fm} {r r' : List Str} (h : ∀ y ∈ f.lets, (y ∈ r ↔ y ∈ r')) : f.ev r = f.ev r' := by
  induction f with
  | lt n => exact decide_eq_decide.mpr (h n (List.mem_singleton.mpr rfl))
  | ng p ih => show (!p.ev _) = !p.ev _; rw [ih h]
  | im p q i1 i2 =>
    show (q.ev _ || !p.ev _) = (q.ev _ || !p.ev _)
    rw [i1 fun y m => h y (List.mem_append.mpr (.inl m)), i2 fun y m => h y (List.mem_append.mpr (.inr m))]
theorem foldl_rows_filter (p : Str → Bool) : ∀ (l : List Str) (r : List (List Str)) (b : List Str), b ∈ r → b ++ l.filter p ∈ l.foldl (fun r n => r ++ r.map (· ++ [n])) r
  | [], r, b, h => by rw [List.filter_nil, List.append_nil]; exact h
  | n :: l, r, b, h => by
    rw [List.foldl_cons, List.filter_cons]
    by_cases c : p n = true
    · rw [if_pos c]
      have := foldl_rows_filter p l (r ++ r.map (· ++ [n])) (b ++ [n]) (List.mem_append.mpr (.inr (List.mem_map.mpr ⟨b, h, rfl⟩)))
      rwa [List.append_assoc] at this
    · rw [if_neg c]
      exact foldl_rows_filter p l _ b (List.mem_append.mpr (.inl h))
theorem rowsU_filter (p : Str → Bool) (l : List Str) : l.filter p ∈ rowsU l := foldl_rows_filter p l [[]] [] (List.mem_singleton.mpr rfl)
theorem foldl_rows_sub : ∀ (l pre : List Str) (r : List (List Str)), (∀ b ∈ r, b.Sublist pre) → ∀ b ∈ l.foldl (fun r n => r ++ r.map (· ++ [n])) r, b.Sublist (pre ++ l)
  | [], pre, r, h => fun b hb => by rw [List.append_nil]; exact h b hb
  | n :: l, pre, r, h => fun b hb => by
    have := foldl_rows_sub l (pre ++ [n]) (r ++ r.map (· ++ [n])) (fun c hc => by
      rcases List.mem_append.mp hc with hc | hc
      · exact (h c hc).trans (List.sublist_append_left _ _)
      · obtain ⟨d, hd, rfl⟩ := List.mem_map.mp hc
        exact (h d hd).append (List.Sublist.refl _)) b hb
    rwa [List.append_assoc] at this
theorem rowsU_sub {l : List Str} {b : List Str} (h : b ∈ rowsU l) : b.Sublist l := foldl_rows_sub l [] [[]] (fun b hb => by rw [List.mem_singleton.mp hb]; exact List.Sublist.refl _) b h
/-- true under all rows -/
def Valid (f : Fm) : Prop := ∀ r, f.ev r = true
theorem find_valid {f : Fm} {xs : List Str} (hm : ∀ y, y ∈ xs ↔ y ∈ f.lets) : (rowSort (rowsU xs)).find? (fun b => !f.ev b) = none ↔ Valid f := by
  rw [List.find?_eq_none]
  constructor
  · intro h r
    have := h _ (rowSort_mem.mpr (rowsU_filter (fun y => decide (y ∈ r)) xs))
    have e : f.ev (xs.filter fun y => decide (y ∈ r)) = f.ev r := ev_congr fun y hy => by
      rw [List.mem_filter, decide_eq_true_iff]
      exact ⟨fun z => z.2, fun z => ⟨(hm y).mpr hy, z⟩⟩
    rw [← e]
    simpa using this
  · intro h b _
    rw [h b]; decide
/-! ### normal forms, plain -/
def nf1 (x : Str) (rows : List (List Str)) : Fm :=
  if [x] ∈ rows then (if ([] : List Str) ∈ rows then .im (.lt x) (.lt x) else .lt x) else (if ([] : List Str) ∈ rows then .ng (.lt x) else .ng (.im (.lt x) (.lt x)))
def nfS (x : Str) (h l : Fm) : Fm := .ng (.im (.im (.lt x) h) (.ng (.im (.ng (.lt x)) l)))
def rHigh (x : Str) (rows : List (List Str)) : List (List Str) := (rows.filter fun b => decide (x ∈ b)).map List.tail
def rLow (x : Str) (rows : List (List Str)) : List (List Str) := rows.filter fun b => decide (x ∉ b)
def nf : List Str → List (List Str) → Fm
  | [], _ => .lt ""
  | [x], rows => nf1 x rows
  | x :: y :: r, rows => nfS x (nf (y :: r) (rHigh x rows)) (nf (y :: r) (rLow x rows))
theorem sub_head {x : Str} {ns b : List Str} (hn : (x :: ns).Nodup) (h : b.Sublist (x :: ns)) : (x ∈ b ↔ b.head? = some x) ∧ (x ∈ b → b.tail.Sublist ns) ∧ (x ∉ b → b.Sublist ns) := by
  have hx := (List.nodup_cons.mp hn).1
  cases h with
  | cons _ h =>
    have hb : x ∉ b := fun m => hx (h.subset m)
    refine ⟨⟨fun m => absurd m hb, fun e => ?_⟩, fun m => absurd m hb, fun _ => h⟩
    cases b with
    | nil => cases e
    | cons y r => cases e; exact absurd List.mem_cons_self hb
  | @cons_cons r _ _ h => exact ⟨⟨fun _ => rfl, fun _ => List.mem_cons_self⟩, fun _ => h, fun n => absurd List.mem_cons_self n⟩
theorem rHigh_sub {x : Str} {ns : List Str} {rows : List (List Str)} (hn : (x :: ns).Nodup) (h : ∀ b ∈ rows, b.Sublist (x :: ns)) : ∀ b ∈ rHigh x rows, b.Sublist ns := fun b hb => by
  obtain ⟨c, hc, rfl⟩ := List.mem_map.mp hb
  rw [List.mem_filter, decide_eq_true_iff] at hc
  exact (sub_head hn (h c hc.1)).2.1 hc.2
theorem rLow_sub {x : Str} {ns : List Str} {rows : List (List Str)} (hn : (x :: ns).Nodup) (h : ∀ b ∈ rows, b.Sublist (x :: ns)) : ∀ b ∈ rLow x rows, b.Sublist ns := fun b hb => by
  rw [rLow, List.mem_filter, decide_eq_true_iff] at hb
  exact (sub_head hn (h b hb.1)).2.2 hb.2
theorem nf1_ev (x : Str) (rows : List (List Str)) (r : List Str) : (nf1 x rows).ev r = true ↔ [x].filter (fun y => decide (y ∈ r)) ∈ rows := by
  unfold nf1
  by_cases c : x ∈ r <;> by_cases c1 : [x] ∈ rows <;> by_cases c2 : ([] : List Str) ∈ rows <;> simp [Fm.ev, c, c1, c2]
theorem nfS_ev (x : Str) (h l : Fm) (r : List Str) : (nfS x h l).ev r = if x ∈ r then h.ev r else l.ev r := by
  unfold nfS
  by_cases c : x ∈ r
  · rw [if_pos c]; simp [Fm.ev, c]
  · rw [if_neg c]; simp [Fm.ev, c]
theorem nf_ev : ∀ (ns : List Str) (rows : List (List Str)) (r : List Str), ns ≠ [] → ns.Nodup → (∀ b ∈ rows, b.Sublist ns) → ((nf ns rows).ev r = true ↔ ns.filter (fun y => decide (y ∈ r)) ∈ rows)
  | [], _, _, h, _, _ => absurd rfl h
  | [x], rows, r, _, _, _ => nf1_ev x rows r
  | x :: y :: ns, rows, r, _, hn, hs => by
    have hn2 := (List.nodup_cons.mp hn).2
    have hx := (List.nodup_cons.mp hn).1
    have i1 := nf_ev (y :: ns) (rHigh x rows) r (List.cons_ne_nil _ _) hn2 (rHigh_sub hn hs)
    have i2 := nf_ev (y :: ns) (rLow x rows) r (List.cons_ne_nil _ _) hn2 (rLow_sub hn hs)
    show (nfS x _ _).ev r = true ↔ _
    rw [nfS_ev, List.filter_cons]
    by_cases c : x ∈ r
    · rw [if_pos c, if_pos (decide_eq_true c), i1]
      constructor
      · intro h
        obtain ⟨b, hb, e⟩ := List.mem_map.mp h
        rw [List.mem_filter, decide_eq_true_iff] at hb
        have hh := (sub_head hn (hs b hb.1)).1.mp hb.2
        cases b with
        | nil => cases hh
        | cons z t =>
          cases hh
          rw [← e]
          exact hb.1
      · intro h
        exact List.mem_map.mpr ⟨_, List.mem_filter.mpr ⟨h, decide_eq_true List.mem_cons_self⟩, rfl⟩
    · rw [if_neg c, if_neg (by rw [decide_eq_false c]; decide), i2]
      unfold rLow
      rw [List.mem_filter, decide_eq_true_iff]
      exact ⟨fun h => h.1, fun h => ⟨h, fun m => hx (List.mem_filter.mp m).1⟩⟩
theorem nf1_lets (x : Str) (rows : List (List Str)) : ∀ y ∈ (nf1 x rows).lets, y = x := by
  unfold nf1
  split <;> split <;> simp [Fm.lets]
theorem nf_lets : ∀ (ns : List Str) (rows : List (List Str)), ns ≠ [] → ∀ y ∈ (nf ns rows).lets, y ∈ ns
  | [], _, h => absurd rfl h
  | [x], rows, _ => fun y hy => by rw [nf1_lets x rows y hy]; exact List.mem_cons_self
  | x :: z :: ns, rows, _ => fun y hy => by
    have i1 := nf_lets (z :: ns) (rHigh x rows) (List.cons_ne_nil _ _) y
    have i2 := nf_lets (z :: ns) (rLow x rows) (List.cons_ne_nil _ _) y
    have hy : y ∈ ([x] ++ (nf (z :: ns) (rHigh x rows)).lets) ++ ([x] ++ (nf (z :: ns) (rLow x rows)).lets) := hy
    simp only [List.mem_append, List.mem_singleton] at hy
    rcases hy with (rfl | h) | (rfl | h)
    · exact List.mem_cons_self
    · exact List.mem_cons_of_mem _ (i1 h)
    · exact List.mem_cons_self
    · exact List.mem_cons_of_mem _ (i2 h)
theorem nf_small : ∀ (ns : List Str) (rows : List (List Str)), ns ≠ [] → (nf ns rows).depth + 1 ≤ 4 * ns.length ∧ (nf ns rows).size + 8 ≤ 6 * 2 ^ ns.length
  | [], _, h => absurd rfl h
  | [x], rows, _ => by
    show (nf1 x rows).depth + 1 ≤ 4 ∧ (nf1 x rows).size + 8 ≤ 6 * 2
    unfold nf1
    split <;> split <;> simp [Fm.depth, Fm.size]
  | x :: z :: ns, rows, _ => by
    obtain ⟨a1, a2⟩ := nf_small (z :: ns) (rHigh x rows) (List.cons_ne_nil _ _)
    obtain ⟨b1, b2⟩ := nf_small (z :: ns) (rLow x rows) (List.cons_ne_nil _ _)
    have h0 := (nf (z :: ns) (rHigh x rows)).depth_pos
    have e1 : (nf (x :: z :: ns) rows).depth = max (max 1 (nf (z :: ns) (rHigh x rows)).depth + 1) ((max 2 (nf (z :: ns) (rLow x rows)).depth + 1) + 1) + 1 + 1 := rfl
    have e2 : (nf (x :: z :: ns) rows).size = 1 + (1 + ((1 + (1 + (nf (z :: ns) (rHigh x rows)).size)) + (1 + (1 + ((1 + 1) + (nf (z :: ns) (rLow x rows)).size))))) := rfl
    rw [e1, e2]
    have e3 : 2 ^ (x :: z :: ns).length = 2 * 2 ^ (z :: ns).length := by rw [List.length_cons, Nat.pow_succ, Nat.mul_comm]
    rw [e3, List.length_cons (a := x)]
    generalize 2 ^ (z :: ns).length = k2 at a2 b2
    generalize (z :: ns).length = k1 at a1 b1
    omega
/-- the letters, rising -/
structure SrtL (xs : List Str) (p : Fm) : Prop where
  srt : sortedS xs = true
  nd : xs.Nodup
  mem : ∀ y, y ∈ xs ↔ y ∈ p.lets
theorem SrtL.uniq {xs ys : List Str} {p : Fm} (h : SrtL xs p) (k : SrtL ys p) : xs = ys := sorted_same h.srt k.srt h.nd k.nd fun y => (h.mem y).trans (k.mem y).symm
theorem inV_true : ∀ bs : List Bool, inV (.bl true) (bs.map V.bl) = bs.any id
  | [] => rfl
  | b :: bs => by
    have ih := inV_true bs
    unfold inV at ih ⊢
    rw [List.map_cons, List.any_cons, ih, List.any_cons]
    cases b <;> rfl
theorem inV_false : ∀ bs : List Bool, (!inV (.bl false) (bs.map V.bl)) = bs.all id
  | [] => rfl
  | b :: bs => by
    have ih := inV_false bs
    unfold inV at ih ⊢
    rw [List.map_cons, List.any_cons, Bool.not_or, ih, List.all_cons]
    cases b <;> rfl
theorem flat_bls (bs : List Bool) : (bs.map V.bl).all flatV = true := by
  rw [List.all_map]
  exact List.all_eq_true.mpr fun x _ => rfl
/-! ### strongest and weakest, plain -/
def othr (xs names : List Str) : List Str := xs.filter fun y => decide (y ∉ names)
noncomputable def agr (p : Fm) (xs names row : List Str) : List Bool := (rowSort (rowsU (othr xs names))).map fun more => p.ev (row ++ more)
theorem agr_any {p : Fm} {xs names row : List Str} : (agr p xs names row).any id = true ↔ ∃ more ∈ rowsU (othr xs names), p.ev (row ++ more) = true := by
  unfold agr
  rw [List.any_map, List.any_eq_true]
  exact ⟨fun ⟨m, h1, h2⟩ => ⟨m, rowSort_mem.mp h1, h2⟩, fun ⟨m, h1, h2⟩ => ⟨m, rowSort_mem.mpr h1, h2⟩⟩
theorem agr_all {p : Fm} {xs names row : List Str} : (agr p xs names row).all id = true ↔ ∀ more ∈ rowsU (othr xs names), p.ev (row ++ more) = true := by
  unfold agr
  rw [List.all_map, List.all_eq_true]
  exact ⟨fun h m hm => h m (rowSort_mem.mpr hm), fun h m hm => h m (rowSort_mem.mp hm)⟩
noncomputable def hiR (p : Fm) (xs names : List Str) : List (List Str) := (rowSort (rowsU names)).filter fun row => (agr p xs names row).any id
noncomputable def loR (p : Fm) (xs names : List Str) : List (List Str) := (rowSort (rowsU names)).filter fun row => (agr p xs names row).all id
theorem rows_sub {names : List Str} {q : List Str → Bool} : ∀ b ∈ (rowSort (rowsU names)).filter q, b.Sublist names := fun b hb => rowsU_sub (rowSort_mem.mp (List.mem_filter.mp hb).1)
section
variable {p : Fm} {xs names : List Str} (hm : ∀ y, y ∈ xs ↔ y ∈ p.lets) (hn : names.Nodup) (h0 : names ≠ [])
include hn h0
theorem nf_rows (q : List Str → Bool) (r : List Str) : (nf names ((rowSort (rowsU names)).filter q)).ev r = q (names.filter fun y => decide (y ∈ r)) := by
  have h := nf_ev names ((rowSort (rowsU names)).filter q) r h0 hn rows_sub
  rw [List.mem_filter] at h
  cases e : q (names.filter fun y => decide (y ∈ r)) with
  | true => exact h.mpr ⟨rowSort_mem.mpr (rowsU_filter _ names), e⟩
  | false =>
    cases e2 : (nf names ((rowSort (rowsU names)).filter q)).ev r with
    | false => rfl
    | true => exact absurd (e.symm.trans (h.mp e2).2) (by decide)
omit h0 hn in
include hm in
theorem split_ev (r : List Str) : p.ev ((names.filter fun y => decide (y ∈ r)) ++ (othr xs names).filter fun y => decide (y ∈ r)) = p.ev r := ev_congr fun y hy => by
  unfold othr
  simp only [List.mem_append, List.mem_filter, decide_eq_true_iff]
  constructor
  · rintro (h | h)
    · exact h.2
    · exact h.2
  · intro h
    by_cases c : y ∈ names
    · exact .inl ⟨c, h⟩
    · exact .inr ⟨⟨(hm y).mpr hy, c⟩, h⟩
theorem strong_ev (r : List Str) : (nf names (hiR p xs names)).ev r = true ↔ ∃ more ∈ rowsU (othr xs names), p.ev ((names.filter fun y => decide (y ∈ r)) ++ more) = true := by
  unfold hiR
  rw [nf_rows hn h0]
  exact agr_any
theorem weak_ev (r : List Str) : (nf names (loR p xs names)).ev r = true ↔ ∀ more ∈ rowsU (othr xs names), p.ev ((names.filter fun y => decide (y ∈ r)) ++ more) = true := by
  unfold loR
  rw [nf_rows hn h0]
  exact agr_all
include hm
theorem p_strong : Valid (.im p (nf names (hiR p xs names))) := fun r => by
  show ((nf names (hiR p xs names)).ev r || !p.ev r) = true
  cases e : p.ev r with
  | false => simp
  | true =>
    rw [(strong_ev hn h0 r).mpr ⟨_, rowsU_filter (fun y => decide (y ∈ r)) _, by rw [split_ev hm]; exact e⟩]
    rfl
theorem weak_p : Valid (.im (nf names (loR p xs names)) p) := fun r => by
  show (p.ev r || !(nf names (loR p xs names)).ev r) = true
  cases e : (nf names (loR p xs names)).ev r with
  | false => simp
  | true =>
    have := (weak_ev hn h0 r).mp e _ (rowsU_filter (fun y => decide (y ∈ r)) _)
    rw [split_ev hm] at this
    rw [this]; rfl
omit hn h0 hm in
theorem names_ev {o : Fm} (ho : ∀ y ∈ o.lets, y ∈ names) {r more : List Str} (hmo : more ∈ rowsU (othr xs names)) : o.ev ((names.filter fun y => decide (y ∈ r)) ++ more) = o.ev r := ev_congr fun y hy => by
  simp only [List.mem_append, List.mem_filter, decide_eq_true_iff]
  constructor
  · rintro (h | h)
    · exact h.2
    · have := (rowsU_sub hmo).subset h
      unfold othr at this
      rw [List.mem_filter, decide_eq_true_iff] at this
      exact absurd (ho y hy) this.2
  · intro h
    exact .inl ⟨ho y hy, h⟩
omit hm in
theorem strong_o {o : Fm} (ho : ∀ y ∈ o.lets, y ∈ names) (v : Valid (.im p o)) : Valid (.im (nf names (hiR p xs names)) o) := fun r => by
  show (o.ev r || !(nf names (hiR p xs names)).ev r) = true
  cases e : (nf names (hiR p xs names)).ev r with
  | false => simp
  | true =>
    obtain ⟨more, hmo, hp⟩ := (strong_ev hn h0 r).mp e
    have hv : (o.ev _ || !p.ev _) = true := v ((names.filter fun y => decide (y ∈ r)) ++ more)
    rw [hp, names_ev ho hmo] at hv
    simpa using hv
omit hm in
theorem o_weak {o : Fm} (ho : ∀ y ∈ o.lets, y ∈ names) (v : Valid (.im o p)) : Valid (.im o (nf names (loR p xs names))) := fun r => by
  show ((nf names (loR p xs names)).ev r || !o.ev r) = true
  cases e : o.ev r with
  | false => simp
  | true =>
    rw [(weak_ev hn h0 r).mpr fun more hmo => ?_]
    · rfl
    · have hv : (p.ev _ || !o.ev _) = true := v ((names.filter fun y => decide (y ∈ r)) ++ more)
      rw [names_ev ho hmo, e] at hv
      simpa using hv
end
end Cs

namespace Cs
open PySem PySem.Spec PyProof.Rows L2
/-! ### what is put for letters: plain law -/
namespace Fm
def sb (S : Str → Fm) : Fm → Fm
  | .lt n => S n
  | .ng p => .ng (p.sb S)
  | .im p q => .im (p.sb S) (q.sb S)
theorem sb_lets {S : Str → Fm} {y : Str} : ∀ {f : Fm}, y ∈ (f.sb S).lets ↔ ∃ x ∈ f.lets, y ∈ (S x).lets
  | .lt n => ⟨fun h => ⟨n, List.mem_singleton_self _, h⟩, fun ⟨x, hx, h⟩ => by rw [List.mem_singleton.mp hx] at h; exact h⟩
  | .ng p => sb_lets (f := p)
  | .im p q => by
    show y ∈ (p.sb S).lets ++ (q.sb S).lets ↔ ∃ x ∈ p.lets ++ q.lets, _
    rw [List.mem_append, sb_lets (f := p), sb_lets (f := q)]
    constructor
    · rintro (⟨x, hx, h⟩ | ⟨x, hx, h⟩)
      · exact ⟨x, List.mem_append_left _ hx, h⟩
      · exact ⟨x, List.mem_append_right _ hx, h⟩
    · rintro ⟨x, hx, h⟩
      rcases List.mem_append.mp hx with hx | hx
      · exact .inl ⟨x, hx, h⟩
      · exact .inr ⟨x, hx, h⟩
theorem sb_congr {S T : Str → Fm} : ∀ {f : Fm}, (∀ x ∈ f.lets, S x = T x) → f.sb S = f.sb T
  | .lt n, h => h n (List.mem_singleton_self _)
  | .ng p, h => congrArg Fm.ng (sb_congr (f := p) h)
  | .im p q, h => by
    show Fm.im _ _ = Fm.im _ _
    rw [sb_congr (f := p) fun x hx => h x (List.mem_append_left _ hx), sb_congr (f := q) fun x hx => h x (List.mem_append_right _ hx)]
theorem sb_sb {S T : Str → Fm} : ∀ {f : Fm}, (f.sb S).sb T = f.sb fun x => (S x).sb T
  | .lt _ => rfl
  | .ng p => congrArg Fm.ng (sb_sb (f := p))
  | .im p q => by
    show Fm.im _ _ = Fm.im _ _
    rw [sb_sb (f := p), sb_sb (f := q)]
theorem sb_lt : ∀ {f : Fm}, f.sb Fm.lt = f
  | .lt _ => rfl
  | .ng p => congrArg Fm.ng (sb_lt (f := p))
  | .im p q => by
    show Fm.im _ _ = Fm.im _ _
    rw [sb_lt (f := p), sb_lt (f := q)]
theorem sb_id {S : Str → Fm} {f : Fm} (h : ∀ x ∈ f.lets, S x = .lt x) : f.sb S = f := (sb_congr h).trans sb_lt
theorem sb_depth {S : Str → Fm} : ∀ f : Fm, f.depth ≤ (f.sb S).depth
  | .lt n => (S n).depth_pos
  | .ng p => by have := sb_depth (S := S) p; show p.depth + 1 ≤ (p.sb S).depth + 1; omega
  | .im p q => by have := sb_depth (S := S) p; have := sb_depth (S := S) q; show max p.depth q.depth + 1 ≤ max (p.sb S).depth (q.sb S).depth + 1; omega
theorem sb_size {S : Str → Fm} : ∀ f : Fm, f.size ≤ (f.sb S).size
  | .lt n => (S n).size_pos
  | .ng p => by have := sb_size (S := S) p; show 1 + p.size ≤ 1 + (p.sb S).size; omega
  | .im p q => by have := sb_size (S := S) p; have := sb_size (S := S) q; show 1 + (p.size + q.size) ≤ 1 + ((p.sb S).size + (q.sb S).size); omega
theorem sb_in {S : Str → Fm} {x : Str} : ∀ {f : Fm}, x ∈ f.lets → (S x).size ≤ (f.sb S).size
  | .lt n, h => by rw [List.mem_singleton.mp h]; exact Nat.le_refl _
  | .ng p, h => by have := sb_in (S := S) (f := p) h; show _ ≤ 1 + (p.sb S).size; omega
  | .im p q, h => by
    show _ ≤ 1 + ((p.sb S).size + (q.sb S).size)
    rcases List.mem_append.mp h with h | h
    · have := sb_in (S := S) h; omega
    · have := sb_in (S := S) h; omega
theorem sb_lt_in {S : Str → Fm} {x : Str} : ∀ {f : Fm}, x ∈ f.lets → f ≠ .lt x → (S x).size < (f.sb S).size
  | .lt n, h, hn => absurd (by rw [List.mem_singleton.mp h]) hn
  | .ng p, h, _ => by have := sb_in (S := S) (f := p) h; show _ < 1 + (p.sb S).size; omega
  | .im p q, h, _ => by
    show _ < 1 + ((p.sb S).size + (q.sb S).size)
    rcases List.mem_append.mp h with h | h
    · have := sb_in (S := S) h; omega
    · have := sb_in (S := S) h; omega
theorem put_sb (t : Str → Option Fm) : ∀ f : Fm, f.put t = f.sb fun x => (t x).getD (.lt x)
  | .lt _ => rfl
  | .ng p => congrArg Fm.ng (put_sb t p)
  | .im p q => by
    show Fm.im _ _ = Fm.im _ _
    rw [put_sb t p, put_sb t q]
end Fm
/-! the new letters -/
def nwS (i : Nat) : Str := (Str.empty ++ ("new " : Str)) ++ Str.ofString (toString (i : Int))
def nwD (s : Str) : Nat := (s.cps.toList.drop 4).foldl (fun a c => a * 10 + (c - 48)) 0
theorem nwD_nw : ∀ i : Nat, i < 700 → nwD (nwS i) = i := by decide +kernel
theorem nw_ok : ∀ i : Nat, i < 700 → PyData.strOk (nwS i) = true := by decide +kernel
theorem nw_len : ∀ i : Nat, i < 700 → (nwS i).length ≤ 10 := by decide +kernel
theorem nw_inj {i j : Nat} (hi : i < 700) (hj : j < 700) (h : nwS i = nwS j) : i = j := by rw [← nwD_nw i hi, h, nwD_nw j hj]
/-- one of the first n new letters -/
def Nw (n : Nat) (x : Str) : Prop := ∃ i, 1 ≤ i ∧ i ≤ n ∧ x = nwS i
theorem Nw.up {n m : Nat} {x : Str} (h : Nw n x) (l : n ≤ m) : Nw m x := by obtain ⟨i, a, b, c⟩ := h; exact ⟨i, a, by omega, c⟩
def FNw (n : Nat) (f : Fm) : Prop := ∀ y ∈ f.lets, Nw n y
theorem FNw.up {n m : Nat} {f : Fm} (h : FNw n f) (l : n ≤ m) : FNw m f := fun y hy => (h y hy).up l
theorem FNw.pl {n : Nat} {f : Fm} (h : FNw n f) (l : n < 700) : f.Pl := fun y hy => by obtain ⟨i, a, b, rfl⟩ := h y hy; exact nw_ok i (by omega)
theorem Nw.no {n : Nat} (l : n + 1 < 700) : ¬ Nw n (nwS (n + 1)) := fun ⟨i, a, b, c⟩ => by have := nw_inj (by omega) (by omega) c; omega
/-- a table that has been built: n letters so far; S: all that it tells put; θ: what is known to make all the same -/
structure UI (n : Nat) (l : Tl) (S θ : Str → Fm) : Prop where
  nd : (keysT l).Nodup
  kd : ∀ x ∈ keysT l, Nw n x
  vd : ∀ p ∈ l, FNw n p.2
  free : ∀ x, x ∉ keysT l → S x = .lt x
  key : ∀ p ∈ l, S p.1 = p.2.sb S
  idem : ∀ x, ∀ y ∈ (S x).lets, y ∉ keysT l
  sd : ∀ x, Nw n x → FNw n (S x)
  comp : ∀ x, (S x).sb θ = θ x
  ord : ∀ i x y, l[i]? = some (x, .lt y) → y ∉ keysT (l.take (i + 1))
  few : l.length ≤ n
theorem UI.nil (θ : Str → Fm) : UI 0 [] Fm.lt θ := ⟨List.nodup_nil, (fun x h => nomatch h), (fun p h => nomatch h), fun x _ => rfl, (fun p h => nomatch h), fun x y hy h => (nomatch h), fun x h y hy => by rw [List.mem_singleton.mp hy]; exact h, fun x => rfl, (fun i x y h => by cases h), Nat.le_refl _⟩
section
variable {n : Nat} {l : Tl} {S θ : Str → Fm}
theorem UI.sb2 (U : UI n l S θ) (f : Fm) : (f.sb S).sb θ = f.sb θ := by
  rw [Fm.sb_sb]
  exact Fm.sb_congr fun x _ => U.comp x
theorem UI.dep (U : UI n l S θ) (f : Fm) : (f.sb S).depth ≤ (f.sb θ).depth := by rw [← U.sb2 f]; exact Fm.sb_depth _
theorem UI.siz (U : UI n l S θ) (f : Fm) : (f.sb S).size ≤ (f.sb θ).size := by rw [← U.sb2 f]; exact Fm.sb_size _
theorem UI.sdF (U : UI n l S θ) {f : Fm} (h : FNw n f) : FNw n (f.sb S) := fun y hy => by
  obtain ⟨x, hx, hy⟩ := Fm.sb_lets.mp hy
  exact U.sd x (h x hx) y hy
theorem keysT_app (l : Tl) (x : Str) (t : Fm) : keysT (l ++ [(x, t)]) = keysT l ++ [x] := by unfold keysT; rw [List.map_append]; rfl
def stpU (S : Str → Fm) (x : Str) (t : Fm) : Str → Fm := fun y => (S y).sb fun z => if z = x then t.sb S else .lt z
theorem UI.add (U : UI n l S θ) {x : Str} {t : Fm} (hx : x ∉ keysT l) (hxn : Nw n x) (ht : FNw n t) (hw : ∀ y, t = .lt y → y ∉ keysT l) (hne : t ≠ .lt x) (hoc : x ∉ (t.sb S).lets) (hθ : θ x = t.sb θ) (hf : l.length < n) : UI n (l ++ [(x, t)]) (stpU S x t) θ := by
  have eR : ∀ f : Fm, (f.sb S).sb (fun z => if z = x then t.sb S else .lt z) = f.sb (stpU S x t) := fun f => Fm.sb_sb
  have ex : stpU S x t x = t.sb S := by
    unfold stpU
    rw [U.free x hx]
    exact if_pos rfl
  have et : t.sb (stpU S x t) = t.sb S := by
    rw [← eR]
    exact Fm.sb_id fun z hz => if_neg fun e => hoc (by rw [← e]; exact hz)
  refine ⟨?_, fun y hy => ?_, fun p hp => ?_, fun y hy => ?_, fun p hp => ?_, fun y z hz hk => ?_, fun y hy z hz => ?_, fun y => ?_, fun i a y h => ?_, by rw [List.length_append, List.length_singleton]; exact hf⟩
  · rw [keysT_app, List.nodup_append]
    exact ⟨U.nd, List.nodup_cons.mpr ⟨List.not_mem_nil, List.nodup_nil⟩, fun a ha b hb e => hx (by rw [List.mem_singleton.mp hb] at e; rw [← e]; exact ha)⟩
  · rw [keysT_app] at hy
    rcases List.mem_append.mp hy with hy | hy
    · exact U.kd y hy
    · rw [List.mem_singleton.mp hy]; exact hxn
  · rcases List.mem_append.mp hp with hp | hp
    · exact U.vd p hp
    · rw [List.mem_singleton.mp hp]; exact ht
  · rw [keysT_app] at hy
    have h1 : y ∉ keysT l := fun m => hy (List.mem_append_left _ m)
    have h2 : y ≠ x := fun e => hy (List.mem_append_right _ (by rw [e]; exact List.mem_singleton_self _))
    unfold stpU
    rw [U.free y h1]
    exact if_neg h2
  · rcases List.mem_append.mp hp with hp | hp
    · rw [← eR]
      unfold stpU
      rw [U.key p hp]
    · rw [List.mem_singleton.mp hp]
      show stpU S x t x = t.sb _
      rw [ex, et]
  · unfold stpU at hz
    obtain ⟨u, hu, hz⟩ := Fm.sb_lets.mp hz
    rw [keysT_app] at hk
    by_cases c : u = x
    · rw [if_pos c] at hz
      rcases List.mem_append.mp hk with hk | hk
      · obtain ⟨v, _, hv⟩ := Fm.sb_lets.mp hz
        exact U.idem v z hv hk
      · rw [List.mem_singleton.mp hk] at hz; exact hoc hz
    · rw [if_neg c] at hz
      rw [List.mem_singleton.mp hz] at hk
      rcases List.mem_append.mp hk with hk | hk
      · exact U.idem y u hu hk
      · exact c (List.mem_singleton.mp hk)
  · unfold stpU at hz
    obtain ⟨u, hu, hz⟩ := Fm.sb_lets.mp hz
    by_cases c : u = x
    · rw [if_pos c] at hz; exact U.sdF ht z hz
    · rw [if_neg c] at hz
      rw [List.mem_singleton.mp hz]
      exact U.sd y hy u hu
  · unfold stpU
    rw [Fm.sb_sb, ← U.comp y]
    refine Fm.sb_congr fun z _ => ?_
    by_cases c : z = x
    · rw [if_pos c, U.sb2, c, hθ]
    · rw [if_neg c]; rfl
  · by_cases c : i < l.length
    · rw [List.getElem?_append_left c] at h
      rw [List.take_append_of_le_length (by omega)]
      exact U.ord i a y h
    · rw [List.getElem?_append_right (by omega)] at h
      have hi : i - l.length = 0 := by
        have := (List.getElem?_eq_some_iff.mp h).1
        simp at this; omega
      rw [hi] at h
      cases h
      rw [List.take_of_length_le (by rw [List.length_append, List.length_singleton]; omega), keysT_app]
      intro m
      rcases List.mem_append.mp m with m | m
      · exact hw y rfl m
      · exact hne (by rw [List.mem_singleton.mp m])
/-- a new letter -/
def exθ (θ : Str → Fm) (n : Nat) (F : Fm) : Str → Fm := fun y => if y = nwS (n + 1) then F else θ y
theorem exθ_old {F : Fm} (hn : n + 1 < 700) {y : Str} (h : Nw n y) : exθ θ n F y = θ y := by
  unfold exθ
  exact if_neg fun e => Nw.no hn (by rw [← e]; exact h)
theorem exθ_new {F : Fm} : exθ θ n F (nwS (n + 1)) = F := if_pos rfl
theorem sb_old {F : Fm} (hn : n + 1 < 700) {f : Fm} (h : FNw n f) : f.sb (exθ θ n F) = f.sb θ := Fm.sb_congr fun y hy => exθ_old hn (h y hy)
theorem UI.fresh (U : UI n l S θ) (hn : n + 1 < 700) (F : Fm) : UI (n + 1) l S (exθ θ n F) := by
  have old : ∀ {m : Nat} {x : Str}, Nw n x → Nw (n + 1) x := fun h => h.up (Nat.le_succ _)
  refine ⟨U.nd, fun x hx => (U.kd x hx).up (Nat.le_succ _), fun p hp => (U.vd p hp).up (Nat.le_succ _), U.free, U.key, U.idem, fun x hx => ?_, fun x => ?_, U.ord, Nat.le_succ_of_le U.few⟩
  · by_cases c : x ∈ keysT l
    · exact (U.sd x (U.kd x c)).up (Nat.le_succ _)
    · rw [U.free x c]
      exact fun y hy => by rw [List.mem_singleton.mp hy]; exact hx
  · by_cases c : x ∈ keysT l
    · have hx := U.kd x c
      rw [sb_old hn (U.sd x hx), exθ_old hn hx]
      exact U.comp x
    · rw [U.free x c]; rfl
end
theorem FNw.kid {n : Nat} {f g : Fm} (h : FNw n f) (hg : g ∈ f.kids) : FNw n g := fun y hy => by
  cases f with
  | lt m => cases hg
  | ng p => rw [List.mem_singleton.mp hg] at hy; exact h y hy
  | im p q =>
    rcases List.mem_cons.mp hg with rfl | hg
    · exact h y (List.mem_append_left _ hy)
    · rw [List.mem_singleton.mp hg] at hy; exact h y (List.mem_append_right _ hy)
theorem sb_kids {S : Str → Fm} : ∀ {f : Fm}, f.isLt = false → (f.sb S).kids = f.kids.map (·.sb S) ∧ (f.sb S).tag = f.tag ∧ (f.sb S).isLt = false
  | .lt _, h => nomatch h
  | .ng _, _ => ⟨rfl, rfl, rfl⟩
  | .im _ _, _ => ⟨rfl, rfl, rfl⟩
/-! steps of proofs -/
inductive Stp where
  | ax (k : Int)
  | dt (s t : Stp)
def Stp.d : Stp → PyData
  | .ax k => .tuple [.str "axiom", .int k]
  | .dt s t => .tuple [.str "detach", s.d, t.d]
def Stp.dep : Stp → Nat
  | .ax _ => 0
  | .dt s t => max s.dep t.dep + 1
def Stp.nod : Stp → Nat
  | .ax _ => 1
  | .dt s t => 1 + s.nod + t.nod
/-- s proves F, as an actual proof does -/
inductive Prv : Stp → Fm → Prop
  | ax {k : Int} {p : Fm} {t : Str → Option Fm} : axL.lookup k = some p → GdF (p.put t) → Prv (.ax k) (p.put t)
  | dt {s t : Stp} {P F : Fm} : Prv s (.im P F) → Prv t P → Prv (.dt s t) F
theorem Prv.gd : ∀ {s : Stp} {F : Fm}, Prv s F → GdF F
  | _, _, .ax _ g => g
  | _, _, .dt h _ => h.gd.r
/-- the tree of line k -/
def trF (ls : List Ln) : Nat → Nat → Stp
  | 0, _ => .ax 0
  | n + 1, k => match ls[k]? with
    | some (_, .ax m) => .ax m
    | some (_, .dt i j) => .dt (trF ls n i.toNat) (trF ls n j.toNat)
    | _ => .ax 0
theorem nod_le : ∀ (n : Nat) (ls : List Ln) (k : Nat), (trF ls n k).dep ≤ n ∧ (trF ls n k).nod < 2 ^ (n + 1)
  | 0, _, _ => ⟨Nat.le_refl _, (by show 1 < 2; decide)⟩
  | n + 1, ls, k => by
    unfold trF
    have h2 : 2 ^ (n + 2) = 2 * 2 ^ (n + 1) := by rw [Nat.pow_succ 2 (n + 1), Nat.mul_comm]
    have h1 : 0 < 2 ^ (n + 1) := Nat.two_pow_pos _
    split
    · exact ⟨Nat.zero_le _, by show 1 < 2 ^ (n + 2); omega⟩
    · rename_i i j _
      obtain ⟨a, b⟩ := nod_le n ls i.toNat
      obtain ⟨c, d⟩ := nod_le n ls j.toNat
      exact ⟨by show max _ _ + 1 ≤ n + 1; omega, by show 1 + _ + _ < 2 ^ (n + 2); omega⟩
    · exact ⟨Nat.zero_le _, by show 1 < 2 ^ (n + 2); omega⟩
theorem look_memU {l : Tl} {x : Str} {g : Fm} (h : look l x = some g) : (x, g) ∈ l := by
  unfold look at h
  obtain ⟨p, h1, rfl⟩ := Option.map_eq_some_iff.mp h
  have e : p.1 = x := by simpa using List.find?_some h1
  rw [← e]
  exact List.mem_of_find?_eq_some h1
/-- what a walk leads to -/
structure Wkd (n : Nat) (l : Tl) (S : Str → Fm) (f g : Fm) : Prop where
  nw : FNw n g
  eq : g.sb S = f.sb S
  no : ∀ x, g = .lt x → x ∉ keysT l
  st : (∀ x, f = .lt x → x ∉ keysT l) → g = f
theorem UI.one {n : Nat} {l : Tl} {S θ : Str → Fm} (U : UI n l S θ) {x : Str} {t : Fm} (h : look l x = some t) : S x = t.sb S ∧ FNw n t := ⟨U.key _ (look_memU h), U.vd _ (look_memU h)⟩
/-- the next place is further behind -/
theorem UI.next {n : Nat} {l : Tl} {S θ : Str → Fm} (U : UI n l S θ) {x : Str} {t : Fm} (h : look l x = some t) {m : Nat} (hm : x ∉ keysT (l.take (l.length - m))) (ml : m ≤ l.length) : ∃ m', m' < m ∧ m' ≤ l.length ∧ ∀ y, t = .lt y → y ∉ keysT (l.take (l.length - m')) := by
  obtain ⟨i, hi⟩ := List.mem_iff_getElem?.mp (look_memU h)
  have hil := (List.getElem?_eq_some_iff.mp hi).1
  have hge : l.length - m ≤ i := Nat.le_of_not_lt fun c => hm (by
    unfold keysT
    refine List.mem_map.mpr ⟨(x, t), List.mem_of_getElem? (i := i) ?_, rfl⟩
    rw [List.getElem?_take, if_pos c]; exact hi)
  refine ⟨l.length - (i + 1), by omega, by omega, fun y hy => ?_⟩
  rw [show l.length - (l.length - (i + 1)) = i + 1 by omega]
  exact U.ord i x y (by rw [hi, hy])
theorem UI.room {n : Nat} {l : Tl} {S θ : Str → Fm} (U : UI n l S θ) {x : Str} (hx : x ∉ keysT l) (hn : Nw n x) : l.length < n := by
  have h1 : (x :: keysT l).Nodup := List.nodup_cons.mpr ⟨hx, U.nd⟩
  have h2 := nodup_len (x :: keysT l) ((List.range n).map fun i => nwS (i + 1)) h1 fun y hy => by
    have : Nw n y := by
      rcases List.mem_cons.mp hy with rfl | hy
      · exact hn
      · exact U.kd y hy
    obtain ⟨i, a, b, rfl⟩ := this
    exact List.mem_map.mpr ⟨i - 1, List.mem_range.mpr (by omega), by rw [show i - 1 + 1 = i by omega]⟩
  rw [List.length_cons, List.length_map, List.length_range] at h2
  have : (keysT l).length = l.length := List.length_map _
  omega
/-- a walked letter is no key: what stands for it -/
theorem Wkd.lt {n : Nat} {l : Tl} {S θ : Str → Fm} (U : UI n l S θ) {f : Fm} {x : Str} (W : Wkd n l S f (.lt x)) : f.sb S = .lt x := by
  rw [← W.eq]
  exact U.free x (W.no x rfl)
theorem GdF.kid {f g : Fm} (h : GdF f) (hg : g ∈ f.kids) : GdF g := by
  cases f with
  | lt m => cases hg
  | ng p =>
    rw [List.mem_singleton.mp hg]
    obtain ⟨a, b, c⟩ := h
    have e : (Fm.ng p).depth = p.depth + 1 := rfl
    have e2 : (Fm.ng p).size = 1 + p.size := rfl
    exact ⟨a.ng, by omega, by omega⟩
  | im p q =>
    rcases List.mem_cons.mp hg with rfl | hg
    · exact h.l
    · rw [List.mem_singleton.mp hg]; exact h.r
end Cs

namespace Cs
open PySem PySem.Spec PyProof.Rows L2
/-! ### parts, letters and negations counted -/
inductive Prt (f : Fm) : Fm → Prop
  | rfl : Prt f f
  | ng {p : Fm} : Prt f p → Prt f (.ng p)
  | il {p q : Fm} : Prt f p → Prt f (.im p q)
  | ir {p q : Fm} : Prt f q → Prt f (.im p q)
theorem Prt.ngI {p g : Fm} (h : Prt (.ng p) g) : Prt p g := by
  generalize e : Fm.ng p = f at h
  induction h with
  | rfl => subst e; exact .ng .rfl
  | ng _ ih => exact .ng (ih)
  | il _ ih => exact .il (ih)
  | ir _ ih => exact .ir (ih)
theorem Prt.imI {p q g : Fm} (h : Prt (.im p q) g) : Prt p g ∧ Prt q g := by
  generalize e : Fm.im p q = f at h
  induction h with
  | rfl => subst e; exact ⟨.il .rfl, .ir .rfl⟩
  | ng _ ih => exact ⟨.ng ih.1, .ng ih.2⟩
  | il _ ih => exact ⟨.il ih.1, .il ih.2⟩
  | ir _ ih => exact ⟨.ir ih.1, .ir ih.2⟩
namespace Fm
/-- how often a letter stands in a formula -/
def cnt (y : Str) : Fm → Nat
  | .lt n => if n = y then 1 else 0
  | .ng p => p.cnt y
  | .im p q => p.cnt y + q.cnt y
/-- the negations -/
def una : Fm → Nat
  | .lt _ => 0
  | .ng p => 1 + p.una
  | .im p q => p.una + q.una
/-- a sum over the letters' places -/
def wsum (F : Str → Nat) : Fm → Nat
  | .lt n => F n
  | .ng p => p.wsum F
  | .im p q => p.wsum F + q.wsum F
end Fm
theorem Prt.cnt {f g : Fm} (h : Prt f g) (y : Str) : f.cnt y ≤ g.cnt y := by
  induction h with
  | rfl => exact Nat.le_refl _
  | ng _ ih => exact ih
  | il _ ih => exact Nat.le_trans ih (Nat.le_add_right _ _)
  | ir _ ih => exact Nat.le_trans ih (Nat.le_add_left _ _)
theorem Prt.una {f g : Fm} (h : Prt f g) : f.una ≤ g.una := by
  induction h with
  | rfl => exact Nat.le_refl _
  | ng _ ih => exact Nat.le_trans ih (Nat.le_add_left _ _)
  | il _ ih => exact Nat.le_trans ih (Nat.le_add_right _ _)
  | ir _ ih => exact Nat.le_trans ih (Nat.le_add_left _ _)
theorem Prt.dep {f g : Fm} (h : Prt f g) : f.depth ≤ g.depth := by
  induction h with
  | rfl => exact Nat.le_refl _
  | ng _ ih => exact Nat.le_trans ih (Nat.le_succ _)
  | @il p q _ ih => show f.depth ≤ max p.depth q.depth + 1; omega
  | @ir p q _ ih => show f.depth ≤ max p.depth q.depth + 1; omega
theorem Prt.lets {f g : Fm} (h : Prt f g) : ∀ y ∈ f.lets, y ∈ g.lets := by
  induction h with
  | rfl => exact fun y h => h
  | ng _ ih => exact ih
  | il _ ih => exact fun y h => List.mem_append_left _ (ih y h)
  | ir _ ih => exact fun y h => List.mem_append_right _ (ih y h)
namespace Fm
theorem sb_w (S : Str → Fm) : ∀ f : Fm, (f.sb S).size + 1 = f.una + f.wsum fun y => (S y).size + 1
  | .lt n => (Nat.zero_add _).symm
  | .ng p => by have := sb_w S p; show 1 + (p.sb S).size + 1 = 1 + p.una + _; show _ = 1 + p.una + p.wsum _; omega
  | .im p q => by
    have := sb_w S p
    have := sb_w S q
    show 1 + ((p.sb S).size + (q.sb S).size) + 1 = p.una + q.una + (p.wsum _ + q.wsum _)
    omega
theorem cnt_pos {y : Str} : ∀ {f : Fm}, y ∈ f.lets → 1 ≤ f.cnt y
  | .lt n, h => by rw [List.mem_singleton.mp h]; unfold cnt; rw [if_pos rfl]; exact Nat.le_refl _
  | .ng p, h => cnt_pos (f := p) h
  | .im p q, h => by
    show 1 ≤ p.cnt y + q.cnt y
    rcases List.mem_append.mp h with h | h
    · have := cnt_pos h; omega
    · have := cnt_pos h; omega
theorem sb_dep_le {S : Str → Fm} {m : Nat} : ∀ {f : Fm}, (∀ y ∈ f.lets, (S y).depth ≤ m) → (f.sb S).depth + 1 ≤ f.depth + m
  | .lt n, h => by have := h n (List.mem_singleton_self _); show (S n).depth + 1 ≤ 1 + m; omega
  | .ng p, h => by have := sb_dep_le (f := p) h; show (p.sb S).depth + 1 + 1 ≤ p.depth + 1 + m; omega
  | .im p q, h => by
    have := sb_dep_le (f := p) fun y hy => h y (List.mem_append_left _ hy)
    have := sb_dep_le (f := q) fun y hy => h y (List.mem_append_right _ hy)
    show max (p.sb S).depth (q.sb S).depth + 1 + 1 ≤ max p.depth q.depth + 1 + m
    omega
theorem sb_in_dep {S : Str → Fm} {x : Str} : ∀ {f : Fm}, x ∈ f.lets → (S x).depth ≤ (f.sb S).depth
  | .lt n, h => by rw [List.mem_singleton.mp h]; exact Nat.le_refl _
  | .ng p, h => by have := sb_in_dep (S := S) (f := p) h; show _ ≤ (p.sb S).depth + 1; omega
  | .im p q, h => by
    show _ ≤ max (p.sb S).depth (q.sb S).depth + 1
    rcases List.mem_append.mp h with h | h
    · have := sb_in_dep (S := S) h; omega
    · have := sb_in_dep (S := S) h; omega
theorem sb_lt_dep {S : Str → Fm} {x : Str} : ∀ {f : Fm}, x ∈ f.lets → f.isLt = false → (S x).depth < (f.sb S).depth
  | .lt n, _, h => nomatch h
  | .ng p, h, _ => by have := sb_in_dep (S := S) (f := p) h; show _ < (p.sb S).depth + 1; omega
  | .im p q, h, _ => by
    show _ < max (p.sb S).depth (q.sb S).depth + 1
    rcases List.mem_append.mp h with h | h
    · have := sb_in_dep (S := S) h; omega
    · have := sb_in_dep (S := S) h; omega
theorem sb_lt_siz {S : Str → Fm} {x : Str} {f : Fm} (h : x ∈ f.lets) (hf : f.isLt = false) : (S x).size < (f.sb S).size := sb_lt_in h fun e => by rw [e] at hf; cases hf
theorem lets_some : ∀ f : Fm, ∃ y, y ∈ f.lets
  | .lt n => ⟨n, List.mem_singleton_self _⟩
  | .ng p => p.lets_some
  | .im p q => let ⟨y, h⟩ := p.lets_some; ⟨y, List.mem_append_left _ h⟩
end Fm
/-! ### sums over lists without a thing twice -/
def lsum (g : Str → Nat) (L : List Str) : Nat := (L.map g).sum
theorem lsum_cons (g : Str → Nat) (x : Str) (L : List Str) : lsum g (x :: L) = g x + lsum g L := rfl
theorem lsum_erase {g : Str → Nat} {x : Str} : ∀ {L : List Str}, x ∈ L → lsum g L = g x + lsum g (L.erase x)
  | y :: L, h => by
    by_cases e : y = x
    · subst e; rw [List.erase_cons_head]; rfl
    · rw [List.erase_cons_tail (by simpa using e), lsum_cons, lsum_cons, lsum_erase ((List.mem_cons.mp h).resolve_left fun z => e z.symm)]
      omega
theorem lsum_sub {g : Str → Nat} : ∀ {L M : List Str}, L.Nodup → (∀ x ∈ L, x ∈ M) → lsum g L ≤ lsum g M
  | [], _, _, _ => Nat.zero_le _
  | x :: L, M, nd, h => by
    rw [lsum_erase (h x List.mem_cons_self), lsum_cons]
    have := lsum_sub (g := g) (L := L) (M := M.erase x) (List.nodup_cons.mp nd).2 fun y hy => (List.mem_erase_of_ne fun (e : y = x) => (List.nodup_cons.mp nd).1 (by rw [← e]; exact hy)).mpr (h y (List.mem_cons_of_mem _ hy))
    omega
theorem lsum_mono {g k : Str → Nat} : ∀ {L : List Str}, (∀ x ∈ L, g x ≤ k x) → lsum g L ≤ lsum k L
  | [], _ => Nat.le_refl _
  | x :: L, h => by
    rw [lsum_cons, lsum_cons]
    have := h x List.mem_cons_self
    have := lsum_mono (L := L) fun y hy => h y (List.mem_cons_of_mem _ hy)
    omega
theorem lsum_add {g k : Str → Nat} : ∀ {L : List Str}, lsum (fun x => g x + k x) L = lsum g L + lsum k L
  | [] => rfl
  | x :: L => by rw [lsum_cons, lsum_cons, lsum_cons, lsum_add (L := L)]; omega
theorem lsum_one {x : Str} {n : Nat} : ∀ {L : List Str}, x ∈ L → n ≤ lsum (fun y => (if x = y then 1 else 0) * n) L
  | y :: L, h => by
    rw [lsum_cons]
    by_cases e : x = y
    · rw [if_pos e]; omega
    · have := lsum_one (n := n) ((List.mem_cons.mp h).resolve_left e)
      rw [if_neg e]; omega
theorem wsum_le {F : Str → Nat} {L : List Str} : ∀ {f : Fm}, (∀ y ∈ f.lets, y ∈ L) → f.wsum F ≤ lsum (fun y => f.cnt y * F y) L
  | .lt n, h => by
    have := lsum_one (n := F n) (h n (List.mem_singleton_self _))
    refine Nat.le_trans this (lsum_mono fun y _ => ?_)
    show (if n = y then 1 else 0) * F n ≤ (if n = y then 1 else 0) * F y
    by_cases e : n = y
    · rw [e]; exact Nat.le_refl _
    · rw [if_neg e]; omega
  | .ng p, h => wsum_le (f := p) h
  | .im p q, h => by
    have h1 := wsum_le (F := F) (f := p) fun y hy => h y (List.mem_append_left _ hy)
    have h2 := wsum_le (F := F) (f := q) fun y hy => h y (List.mem_append_right _ hy)
    have : lsum (fun y => (Fm.im p q).cnt y * F y) L = lsum (fun y => p.cnt y * F y) L + lsum (fun y => q.cnt y * F y) L := by
      rw [← lsum_add]
      refine congrArg List.sum (List.map_congr_left fun y _ => ?_)
      show (p.cnt y + q.cnt y) * F y = _
      rw [Nat.add_mul]
    rw [this]
    exact Nat.add_le_add h1 h2
/-! ### how large it may become -/
def mxl : List Nat → Nat := fun l => l.foldr max 0
theorem mxl_mem : ∀ {l : List Nat} {x : Nat}, x ∈ l → x ≤ mxl l
  | y :: l, x, h => by
    show x ≤ max y (mxl l)
    rcases List.mem_cons.mp h with rfl | h
    · exact Nat.le_max_left _ _
    · exact Nat.le_trans (mxl_mem h) (Nat.le_max_right _ _)
theorem mxl_le {n : Nat} : ∀ {l : List Nat}, (∀ x ∈ l, x ≤ n) → mxl l ≤ n
  | [], _ => Nat.zero_le _
  | y :: l, h => Nat.max_le.mpr ⟨h y List.mem_cons_self, mxl_le fun x hx => h x (List.mem_cons_of_mem _ hx)⟩
def MX : Nat → Nat → Nat
  | 0, s => s
  | k + 1, s => mxl ((List.range (s / 2 + 1)).map fun b => MX k (s - 2 * b) * (1 + b))
theorem MX_step {k s b : Nat} (h : 2 * b ≤ s) : MX k (s - 2 * b) * (1 + b) ≤ MX (k + 1) s := mxl_mem (List.mem_map.mpr ⟨b, List.mem_range.mpr (by omega), rfl⟩)
theorem MX_mono : ∀ {k s t : Nat}, s ≤ t → MX k s ≤ MX k t
  | 0, _, _, h => h
  | k + 1, s, t, h => mxl_le fun x hx => by
    obtain ⟨b, hb, rfl⟩ := List.mem_map.mp hx
    rw [List.mem_range] at hb
    exact Nat.le_trans (Nat.mul_le_mul_right _ (MX_mono (by omega))) (MX_step (by omega))
theorem MX_up {k s : Nat} : MX k s ≤ MX (k + 1) s := by
  have := MX_step (k := k) (s := s) (b := 0) (Nat.zero_le _)
  rw [Nat.mul_zero, Nat.sub_zero, Nat.add_zero, Nat.mul_one] at this
  exact this
theorem MX_ups {k m s : Nat} (h : k ≤ m) : MX k s ≤ MX m s := by
  induction h with
  | refl => exact Nat.le_refl _
  | step _ ih => exact Nat.le_trans ih MX_up
theorem MX_437 : MX 4 37 ≤ 3900 := by decide +kernel
theorem max_in {F : Str → Nat} : ∀ {L : List Str}, L ≠ [] → ∃ x ∈ L, ∀ y ∈ L, F y ≤ F x
  | [x], _ => ⟨x, List.mem_singleton_self _, fun y hy => by rw [List.mem_singleton.mp hy]; exact Nat.le_refl _⟩
  | x :: z :: L, _ => by
    obtain ⟨m, hm, h⟩ := max_in (F := F) (L := z :: L) (by simp)
    by_cases c : F m ≤ F x
    · refine ⟨x, List.mem_cons_self, fun y hy => ?_⟩
      rcases List.mem_cons.mp hy with rfl | hy
      · exact Nat.le_refl _
      · exact Nat.le_trans (h y hy) c
    · refine ⟨m, List.mem_cons_of_mem _ hm, fun y hy => ?_⟩
      rcases List.mem_cons.mp hy with rfl | hy
      · omega
      · exact h y hy
/-- letters sorted by what they become -/
theorem grow {B F : Str → Nat} {A : List Str} {N : Nat} (ndA : A.Nodup) (hB : ∀ x ∈ A, 1 ≤ B x) (hF2 : ∀ x ∈ A, 2 ≤ F x)
    (hF : ∀ x ∈ A, F x = 2 ∨ ((∃ z ∈ A, F z < F x) ∧ F x ≤ N + lsum (fun y => B y * F y) (A.filter fun y => decide (F y < F x)))) :
    ∀ (k : Nat) (L : List Str), L.length = k + 1 → L.Nodup → (∀ x ∈ L, x ∈ A) → (∀ x ∈ L, ∀ y ∈ A, F y < F x → y ∈ L) → N + lsum (fun y => B y * F y) L ≤ MX k (N + 2 * lsum B L)
  | 0, L, hl, nd, sub, dc => by
    obtain ⟨x, rfl⟩ : ∃ x, L = [x] := by
      match L, hl with
      | [x], _ => exact ⟨x, rfl⟩
    have e2 : F x = 2 := by
      rcases hF x (sub x (List.mem_singleton_self _)) with e | ⟨⟨z, hz, hlt⟩, _⟩
      · exact e
      · have := dc x (List.mem_singleton_self _) z hz hlt
        rw [List.mem_singleton.mp this] at hlt
        omega
    show N + (B x * F x + 0) ≤ N + 2 * (B x + 0)
    rw [e2]; omega
  | k + 1, L, hl, nd, sub, dc => by
    obtain ⟨x, hx, hmax⟩ := max_in (F := F) (L := L) fun e => by rw [e] at hl; cases hl
    have hlE : (L.erase x).length = k + 1 := by rw [List.length_erase_of_mem hx]; omega
    have ndE : (L.erase x).Nodup := nd.erase x
    have subE : ∀ y ∈ L.erase x, y ∈ L := fun y hy => List.mem_of_mem_erase hy
    have ih := grow ndA hB hF2 hF k (L.erase x) hlE ndE (fun y hy => sub y (subE y hy)) fun z hz y hy hlt => by
      have hyL := dc z (subE z hz) y hy hlt
      have := hmax z (subE z hz)
      exact (List.mem_erase_of_ne fun e => by rw [e] at hlt; omega).mpr hyL
    have s1 : lsum (fun y => B y * F y) L = B x * F x + lsum (fun y => B y * F y) (L.erase x) := lsum_erase hx
    have s2 : lsum B L = B x + lsum B (L.erase x) := lsum_erase hx
    have fx : F x ≤ N + lsum (fun y => B y * F y) (L.erase x) := by
      rcases hF x (sub x hx) with e | ⟨_, h⟩
      · obtain ⟨y, hy⟩ : ∃ y, y ∈ L.erase x := by
          match e : L.erase x, hlE with
          | y :: _, _ => exact ⟨y, List.mem_cons_self⟩
        have h1 := lsum_erase (g := fun y => B y * F y) hy
        have h2 := hB y (sub y (subE y hy))
        have h3 := hF2 y (sub y (subE y hy))
        have h4 : 1 * 2 ≤ B y * F y := Nat.mul_le_mul h2 h3
        have h1 : lsum (fun y => B y * F y) (L.erase x) = B y * F y + lsum (fun y => B y * F y) ((L.erase x).erase y) := h1
        omega
      · refine Nat.le_trans h (Nat.add_le_add_left (lsum_sub (ndA.filter _) fun y hy => ?_) _)
        have := List.mem_filter.mp hy
        have hlt := of_decide_eq_true this.2
        exact (List.mem_erase_of_ne fun e => by rw [e] at hlt; omega).mpr (dc x hx y this.1 hlt)
    have st := MX_step (k := k) (s := N + 2 * lsum B L) (b := B x) (by rw [s2]; omega)
    rw [show N + 2 * lsum B L - 2 * B x = N + 2 * lsum B (L.erase x) by rw [s2]; omega] at st
    refine Nat.le_trans ?_ st
    generalize lsum (fun y => B y * F y) (L.erase x) = V at *
    have h1 : (N + V) * (1 + B x) ≤ MX k (N + 2 * lsum B (L.erase x)) * (1 + B x) := Nat.mul_le_mul_right _ ih
    have h2 : B x * F x ≤ B x * (N + V) := Nat.mul_le_mul_left _ fx
    refine Nat.le_trans ?_ h1
    rw [s1, Nat.mul_add, Nat.mul_one, Nat.mul_comm (N + V) (B x)]
    omega
end Cs

namespace Cs
open PySem PySem.Spec PyProof.Rows L2
/-! ### a table of letters in the making, for two formulas -/
def InF (P Q f : Fm) : Prop := Prt f P ∨ Prt f Q
def AL (P Q : Fm) : List Str := P.lets ++ Q.lets
section
variable {P Q : Fm}
theorem InF.ng {p : Fm} (h : InF P Q (.ng p)) : InF P Q p := h.elim (fun h => .inl h.ngI) fun h => .inr h.ngI
theorem InF.il {p q : Fm} (h : InF P Q (.im p q)) : InF P Q p := h.elim (fun h => .inl h.imI.1) fun h => .inr h.imI.1
theorem InF.ir {p q : Fm} (h : InF P Q (.im p q)) : InF P Q q := h.elim (fun h => .inl h.imI.2) fun h => .inr h.imI.2
theorem InF.lets {f : Fm} (h : InF P Q f) : ∀ y ∈ f.lets, y ∈ AL P Q := fun y hy => h.elim (fun h => List.mem_append_left _ (h.lets y hy)) fun h => List.mem_append_right _ (h.lets y hy)
theorem InF.kid {f g : Fm} (h : InF P Q f) (hg : g ∈ f.kids) : InF P Q g := by
  cases f with
  | lt n => cases hg
  | ng p => rw [List.mem_singleton.mp hg]; exact h.ng
  | im p q =>
    rcases List.mem_cons.mp hg with rfl | hg
    · exact h.il
    · rw [List.mem_singleton.mp hg]; exact h.ir
end
/-- what solves a table -/
def Cmp (l : Tl) (θ : Str → Fm) : Prop := ∀ p ∈ l, θ p.1 = p.2.sb θ
structure UJ (P Q : Fm) (l : Tl) (S : Str → Fm) : Prop where
  nd : (keysT l).Nodup
  kd : ∀ x ∈ keysT l, x ∈ AL P Q
  vd : ∀ p ∈ l, InF P Q p.2
  free : ∀ x, x ∉ keysT l → S x = .lt x
  key : ∀ p ∈ l, S p.1 = p.2.sb S
  idem : ∀ x, ∀ y ∈ (S x).lets, y ∉ keysT l
  sd : ∀ x ∈ AL P Q, ∀ y ∈ (S x).lets, y ∈ AL P Q
  gen : ∀ θ, Cmp l θ → ∀ x, (S x).sb θ = θ x
  ord : ∀ i x y, l[i]? = some (x, .lt y) → y ∉ keysT (l.take (i + 1))
theorem UJ.nil (P Q : Fm) : UJ P Q [] Fm.lt := ⟨List.nodup_nil, (fun x h => nomatch h), (fun p h => nomatch h), fun x _ => rfl, (fun p h => nomatch h), fun x y hy h => (nomatch h), fun x h y hy => by rw [List.mem_singleton.mp hy]; exact h, fun θ _ x => rfl, (fun i x y h => by cases h)⟩
section
variable {P Q : Fm} {l : Tl} {S θ : Str → Fm}
theorem UJ.sdF (U : UJ P Q l S) {f : Fm} (h : ∀ y ∈ f.lets, y ∈ AL P Q) : ∀ y ∈ (f.sb S).lets, y ∈ AL P Q := fun y hy => by
  obtain ⟨x, hx, hy⟩ := Fm.sb_lets.mp hy
  exact U.sd x (h x hx) y hy
/-- S solves the table, and is the most general that does -/
theorem UJ.self (U : UJ P Q l S) : Cmp l S := U.key
theorem UJ.sb2 (U : UJ P Q l S) (h : Cmp l θ) (f : Fm) : (f.sb S).sb θ = f.sb θ := by
  rw [Fm.sb_sb]
  exact Fm.sb_congr fun x _ => U.gen θ h x
theorem UJ.twice (U : UJ P Q l S) (f : Fm) : (f.sb S).sb S = f.sb S := U.sb2 U.self f
theorem UJ.add (U : UJ P Q l S) {x : Str} {t : Fm} (hx : x ∉ keysT l) (hxn : x ∈ AL P Q) (ht : InF P Q t) (hw : ∀ y, t = .lt y → y ∉ keysT l) (hne : t ≠ .lt x) (hoc : x ∉ (t.sb S).lets) : UJ P Q (l ++ [(x, t)]) (stpU S x t) := by
  have eR : ∀ f : Fm, (f.sb S).sb (fun z => if z = x then t.sb S else .lt z) = f.sb (stpU S x t) := fun f => Fm.sb_sb
  have ex : stpU S x t x = t.sb S := by
    unfold stpU
    rw [U.free x hx]
    exact if_pos rfl
  have et : t.sb (stpU S x t) = t.sb S := by
    rw [← eR]
    exact Fm.sb_id fun z hz => if_neg fun e => hoc (by rw [← e]; exact hz)
  refine ⟨?_, fun y hy => ?_, fun p hp => ?_, fun y hy => ?_, fun p hp => ?_, fun y z hz hk => ?_, fun y hy z hz => ?_, fun θ hθ y => ?_, fun i a y h => ?_⟩
  · rw [keysT_app, List.nodup_append]
    exact ⟨U.nd, List.nodup_cons.mpr ⟨List.not_mem_nil, List.nodup_nil⟩, fun a ha b hb e => hx (by rw [List.mem_singleton.mp hb] at e; rw [← e]; exact ha)⟩
  · rw [keysT_app] at hy
    rcases List.mem_append.mp hy with hy | hy
    · exact U.kd y hy
    · rw [List.mem_singleton.mp hy]; exact hxn
  · rcases List.mem_append.mp hp with hp | hp
    · exact U.vd p hp
    · rw [List.mem_singleton.mp hp]; exact ht
  · rw [keysT_app] at hy
    have h1 : y ∉ keysT l := fun m => hy (List.mem_append_left _ m)
    have h2 : y ≠ x := fun e => hy (List.mem_append_right _ (by rw [e]; exact List.mem_singleton_self _))
    unfold stpU
    rw [U.free y h1]
    exact if_neg h2
  · rcases List.mem_append.mp hp with hp | hp
    · rw [← eR]
      unfold stpU
      rw [U.key p hp]
    · rw [List.mem_singleton.mp hp]
      show stpU S x t x = t.sb _
      rw [ex, et]
  · unfold stpU at hz
    obtain ⟨u, hu, hz⟩ := Fm.sb_lets.mp hz
    rw [keysT_app] at hk
    by_cases c : u = x
    · rw [if_pos c] at hz
      rcases List.mem_append.mp hk with hk | hk
      · obtain ⟨v, _, hv⟩ := Fm.sb_lets.mp hz
        exact U.idem v z hv hk
      · rw [List.mem_singleton.mp hk] at hz; exact hoc hz
    · rw [if_neg c] at hz
      rw [List.mem_singleton.mp hz] at hk
      rcases List.mem_append.mp hk with hk | hk
      · exact U.idem y u hu hk
      · exact c (List.mem_singleton.mp hk)
  · unfold stpU at hz
    obtain ⟨u, hu, hz⟩ := Fm.sb_lets.mp hz
    by_cases c : u = x
    · rw [if_pos c] at hz; exact U.sdF ht.lets z hz
    · rw [if_neg c] at hz
      rw [List.mem_singleton.mp hz]
      exact U.sd y hy u hu
  · have h1 : Cmp l θ := fun p hp => hθ p (List.mem_append_left _ hp)
    have h2 : θ x = t.sb θ := hθ (x, t) (List.mem_append_right _ (List.mem_singleton_self _))
    unfold stpU
    rw [Fm.sb_sb, ← U.gen θ h1 y]
    refine Fm.sb_congr fun z _ => ?_
    by_cases c : z = x
    · rw [if_pos c, U.sb2 h1, c, h2]
    · rw [if_neg c]; rfl
  · by_cases c : i < l.length
    · rw [List.getElem?_append_left c] at h
      rw [List.take_append_of_le_length (by omega)]
      exact U.ord i a y h
    · rw [List.getElem?_append_right (by omega)] at h
      have hi : i - l.length = 0 := by
        have := (List.getElem?_eq_some_iff.mp h).1
        simp at this; omega
      rw [hi] at h
      cases h
      rw [List.take_of_length_le (by rw [List.length_append, List.length_singleton]; omega), keysT_app]
      intro m
      rcases List.mem_append.mp m with m | m
      · exact hw y rfl m
      · exact hne (by rw [List.mem_singleton.mp m])
theorem cmp_app {l : Tl} {x : Str} {t : Fm} {θ : Str → Fm} : Cmp (l ++ [(x, t)]) θ ↔ Cmp l θ ∧ θ x = t.sb θ :=
  ⟨fun h => ⟨fun p hp => h p (List.mem_append_left _ hp), h (x, t) (List.mem_append_right _ (List.mem_singleton_self _))⟩, fun ⟨h1, h2⟩ p hp => by
    rcases List.mem_append.mp hp with hp | hp
    · exact h1 p hp
    · rw [List.mem_singleton.mp hp]; exact h2⟩
theorem UJ.one (U : UJ P Q l S) {x : Str} {t : Fm} (h : look l x = some t) : S x = t.sb S ∧ InF P Q t := ⟨U.key _ (look_memU h), U.vd _ (look_memU h)⟩
theorem UJ.next (U : UJ P Q l S) {x : Str} {t : Fm} (h : look l x = some t) {m : Nat} (hm : x ∉ keysT (l.take (l.length - m))) (ml : m ≤ l.length) : ∃ m', m' < m ∧ m' ≤ l.length ∧ ∀ y, t = .lt y → y ∉ keysT (l.take (l.length - m')) := by
  obtain ⟨i, hi⟩ := List.mem_iff_getElem?.mp (look_memU h)
  have hil := (List.getElem?_eq_some_iff.mp hi).1
  have hge : l.length - m ≤ i := Nat.le_of_not_lt fun c => hm (by
    unfold keysT
    refine List.mem_map.mpr ⟨(x, t), List.mem_of_getElem? (i := i) ?_, rfl⟩
    rw [List.getElem?_take, if_pos c]; exact hi)
  refine ⟨l.length - (i + 1), by omega, by omega, fun y hy => ?_⟩
  rw [show l.length - (l.length - (i + 1)) = i + 1 by omega]
  exact U.ord i x y (by rw [hi, hy])
/-- what a letter stands for: itself or a like one, or a part that is no letter -/
theorem UJ.head (U : UJ P Q l S) : ∀ (m : Nat) (x : Str), m ≤ l.length → x ∉ keysT (l.take (l.length - m)) → (∃ z, S x = .lt z) ∨ ∃ t, InF P Q t ∧ t.isLt = false ∧ S x = t.sb S := fun m => by
  induction m using Nat.strongRecOn with
  | ind m ih =>
    intro x ml hx
    cases e : look l x with
    | none => exact .inl ⟨x, U.free x (look_none.mp e)⟩
    | some t =>
      obtain ⟨h1, h2⟩ := U.one e
      obtain ⟨m', a, b, c⟩ := U.next e hx ml
      cases t with
      | lt y =>
        rcases ih m' a y b (c y rfl) with ⟨z, hz⟩ | ⟨t, h3, h4, h5⟩
        · exact .inl ⟨z, by rw [h1]; exact hz⟩
        · exact .inr ⟨t, h3, h4, by rw [h1]; exact h5⟩
      | ng p => exact .inr ⟨.ng p, h2, rfl, h1⟩
      | im p q => exact .inr ⟨.im p q, h2, rfl, h1⟩
theorem UJ.hd (U : UJ P Q l S) (x : Str) : (∃ z, S x = .lt z) ∨ ∃ t, InF P Q t ∧ t.isLt = false ∧ S x = t.sb S := U.head l.length x (Nat.le_refl _) (by rw [Nat.sub_self]; exact fun h => nomatch h)
/-- what a walk leads to -/
structure WkJ (P Q : Fm) (l : Tl) (S : Str → Fm) (f g : Fm) : Prop where
  nw : InF P Q g
  eq : g.sb S = f.sb S
  no : ∀ x, g = .lt x → x ∉ keysT l
  st : (∀ x, f = .lt x → x ∉ keysT l) → g = f
  cm : ∀ θ, Cmp l θ → g.sb θ = f.sb θ
theorem WkJ.lt (U : UJ P Q l S) {f : Fm} {x : Str} (W : WkJ P Q l S f (.lt x)) : f.sb S = .lt x := by
  rw [← W.eq]; exact U.free x (W.no x rfl)
/-- a letter within what it should be: nothing makes them the same -/
theorem UJ.occ (U : UJ P Q l S) {x : Str} {t : Fm} (hx : x ∈ (t.sb S).lets) (hw : ∀ y, t = .lt y → y ∉ keysT l) (hne : t ≠ .lt x) (h : Cmp l θ) : θ x ≠ t.sb θ := fun e => by
  have hn : t.sb S ≠ .lt x := fun z => by
    cases t with
    | lt y =>
      have : (Fm.lt y).sb S = .lt y := U.free y (hw y rfl)
      rw [this] at z
      exact hne z
    | ng p => cases z
    | im p q => cases z
  have := Fm.sb_lt_in (S := θ) hx hn
  rw [U.sb2 h, ← e] at this
  omega
end
/-! ### how large and how deep what a table tells is -/
section
variable {P Q : Fm} {l : Tl} {S : Str → Fm}
def mxc (P Q : Fm) (y : Str) : Nat := max (P.cnt y) (Q.cnt y)
def mxu (P Q : Fm) : Nat := max P.una Q.una
theorem InF.cnt {f : Fm} (h : InF P Q f) (y : Str) : f.cnt y ≤ mxc P Q y := h.elim (fun h => Nat.le_trans (h.cnt y) (Nat.le_max_left _ _)) fun h => Nat.le_trans (h.cnt y) (Nat.le_max_right _ _)
theorem InF.una {f : Fm} (h : InF P Q f) : f.una ≤ mxu P Q := h.elim (fun h => Nat.le_trans h.una (Nat.le_max_left _ _)) fun h => Nat.le_trans h.una (Nat.le_max_right _ _)
theorem InF.dep {f : Fm} (h : InF P Q f) : f.depth ≤ max P.depth Q.depth := h.elim (fun h => Nat.le_trans h.dep (Nat.le_max_left _ _)) fun h => Nat.le_trans h.dep (Nat.le_max_right _ _)
theorem UJ.size_le (U : UJ P Q l S) {A : List Str} (ndA : A.Nodup) (hA : ∀ y, y ∈ A ↔ y ∈ AL P Q) (h5 : A.length ≤ 5) (hz : mxu P Q + 2 * lsum (mxc P Q) A ≤ 37) {f : Fm} (hf : InF P Q f) : (f.sb S).size + 1 ≤ 3900 := by
  have part : ∀ (L : List Str) (t : Fm), InF P Q t → (∀ y ∈ t.lets, y ∈ L) → (t.sb S).size + 1 ≤ mxu P Q + lsum (fun y => mxc P Q y * ((S y).size + 1)) L := fun L t ht hL => by
    rw [Fm.sb_w]
    refine Nat.add_le_add ht.una (Nat.le_trans (wsum_le hL) (lsum_mono fun y _ => Nat.mul_le_mul_right _ (ht.cnt y)))
  have pos : ∀ x ∈ A, 1 ≤ mxc P Q x := fun x hx => by
    rcases List.mem_append.mp ((hA x).mp hx) with h | h
    · exact Nat.le_trans (Fm.cnt_pos h) (Nat.le_max_left _ _)
    · exact Nat.le_trans (Fm.cnt_pos h) (Nat.le_max_right _ _)
  have key := grow (B := mxc P Q) (F := fun y => (S y).size + 1) (A := A) (N := mxu P Q) ndA pos (fun x _ => by have := (S x).size_pos; omega) fun x hx => by
    rcases U.hd x with ⟨z, hz⟩ | ⟨t, ht, hl, e⟩
    · exact .inl (by rw [hz]; rfl)
    · have low : ∀ y ∈ t.lets, (S y).size + 1 < (S x).size + 1 := fun y hy => by rw [e]; have := Fm.sb_lt_siz (S := S) hy hl; omega
      refine .inr ⟨?_, ?_⟩
      · obtain ⟨y, hy⟩ := t.lets_some
        exact ⟨y, (hA y).mpr (ht.lets y hy), low y hy⟩
      · have := part (A.filter fun y => decide ((S y).size + 1 < (S x).size + 1)) t ht fun y hy => List.mem_filter.mpr ⟨(hA y).mpr (ht.lets y hy), decide_eq_true (low y hy)⟩
        rw [← e] at this
        exact this
  obtain ⟨y, hy⟩ := f.lets_some
  have hne : A.length ≠ 0 := fun z => by
    have := (hA y).mpr (hf.lets y hy)
    rw [List.length_eq_zero_iff.mp z] at this
    cases this
  obtain ⟨k, hk⟩ : ∃ k, A.length = k + 1 := ⟨A.length - 1, by omega⟩
  have g := key k A hk ndA (fun x h => h) fun x _ y hy _ => hy
  have p := part A f hf fun y hy => (hA y).mpr (hf.lets y hy)
  exact Nat.le_trans (Nat.le_trans p g) (Nat.le_trans (Nat.le_trans (MX_ups (show k ≤ 4 by omega)) (MX_mono hz)) MX_437)
theorem UJ.dep_one (U : UJ P Q l S) {A : List Str} {h : Nat} (ndA : A.Nodup) (hA : ∀ y, y ∈ A ↔ y ∈ AL P Q) (hh : max P.depth Q.depth ≤ h + 1) : ∀ (n : Nat) (x : Str), x ∈ A → (S x).depth ≤ n → (S x).depth ≤ 1 + h * (A.filter fun y => decide ((S y).depth < (S x).depth)).length := fun n => by
    induction n with
    | zero => intro x _ hn; have := (S x).depth_pos; omega
    | succ n ih =>
      intro x hx hn
      rcases U.hd x with ⟨z, hz⟩ | ⟨t, ht, hl, e⟩
      · rw [hz]; show 1 ≤ _; omega
      · have low : ∀ y ∈ t.lets, (S y).depth < (S x).depth := fun y hy => by rw [e]; exact Fm.sb_lt_dep hy hl
        have inA : ∀ y ∈ t.lets, y ∈ A := fun y hy => (hA y).mpr (ht.lets y hy)
        obtain ⟨c, hc⟩ : ∃ c, (A.filter fun y => decide ((S y).depth < (S x).depth)).length = c + 1 := by
          obtain ⟨y, hy⟩ := t.lets_some
          have := List.length_pos_of_mem (List.mem_filter.mpr ⟨inA y hy, decide_eq_true (low y hy)⟩ : y ∈ A.filter fun y => decide ((S y).depth < (S x).depth))
          exact ⟨(A.filter fun y => decide ((S y).depth < (S x).depth)).length - 1, by omega⟩
        have each : ∀ y ∈ t.lets, (S y).depth ≤ 1 + h * c := fun y hy => by
          refine Nat.le_trans (ih y (inA y hy) (by have := low y hy; omega)) (Nat.add_le_add_left (Nat.mul_le_mul_left _ ?_) _)
          have n1 : (y :: A.filter fun z => decide ((S z).depth < (S y).depth)).Nodup := List.nodup_cons.mpr ⟨fun m => by have := of_decide_eq_true (List.mem_filter.mp m).2; omega, ndA.filter _⟩
          have := nodup_len _ (A.filter fun z => decide ((S z).depth < (S x).depth)) n1 fun z hz => by
            rcases List.mem_cons.mp hz with rfl | hz
            · exact List.mem_filter.mpr ⟨inA z hy, decide_eq_true (low z hy)⟩
            · have hz := List.mem_filter.mp hz
              exact List.mem_filter.mpr ⟨hz.1, decide_eq_true (by have := of_decide_eq_true hz.2; have := low y hy; omega)⟩
          rw [List.length_cons, hc] at this
          omega
        have d := Fm.sb_dep_le (S := S) (f := t) each
        have td := ht.dep
        rw [hc, e, Nat.mul_add]
        omega
theorem UJ.dep_lt (U : UJ P Q l S) {A : List Str} {h c : Nat} (ndA : A.Nodup) (hA : ∀ y, y ∈ A ↔ y ∈ AL P Q) (hh : max P.depth Q.depth ≤ h + 1) (hc : A.length = c + 1) {y : Str} (hyA : y ∈ A) : (S y).depth ≤ 1 + h * c := by
  refine Nat.le_trans (U.dep_one ndA hA hh _ y hyA (Nat.le_refl _)) (Nat.add_le_add_left (Nat.mul_le_mul_left _ ?_) _)
  have n1 : (y :: A.filter fun z => decide ((S z).depth < (S y).depth)).Nodup := List.nodup_cons.mpr ⟨fun m => by have := of_decide_eq_true (List.mem_filter.mp m).2; omega, ndA.filter _⟩
  have := nodup_len _ A n1 fun z hz => by
    rcases List.mem_cons.mp hz with rfl | hz
    · exact hyA
    · exact (List.mem_filter.mp hz).1
  rw [List.length_cons, hc] at this
  omega
theorem UJ.dep_le (U : UJ P Q l S) {A : List Str} {h : Nat} (ndA : A.Nodup) (hA : ∀ y, y ∈ A ↔ y ∈ AL P Q) (hh : max P.depth Q.depth ≤ h + 1) {f : Fm} (hf : InF P Q f) : (f.sb S).depth ≤ 1 + h * A.length := by
  obtain ⟨y, hy⟩ := f.lets_some
  have hne : A.length ≠ 0 := fun z => by
    have := (hA y).mpr (hf.lets y hy)
    rw [List.length_eq_zero_iff.mp z] at this
    cases this
  obtain ⟨c, hc⟩ : ∃ c, A.length = c + 1 := ⟨A.length - 1, by omega⟩
  have d := Fm.sb_dep_le (S := S) (f := f) fun y hy => U.dep_lt ndA hA hh hc ((hA y).mpr (hf.lets y hy))
  have fd := hf.dep
  rw [hc, Nat.mul_add]
  omega
end
/-! ### the two formulas as the law draws them -/
structure Fit (P Q : Fm) : Prop where
  pl : ∀ y ∈ AL P Q, PyData.strOk y = true
  dp : max P.depth Q.depth ≤ 50
  few : (AL P Q).length ≤ 60
theorem InF.ok {P Q f : Fm} (h : InF P Q f) (F : Fit P Q) : f.Ok := ⟨fun y hy => F.pl y (h.lets y hy), by have := h.dep; have := F.dp; omega⟩
theorem UJ.room {P Q : Fm} {l : Tl} {S : Str → Fm} (U : UJ P Q l S) (F : Fit P Q) : l.length ≤ 60 := by
  have := nodup_len (keysT l) (AL P Q) U.nd U.kd
  have e : (keysT l).length = l.length := List.length_map _
  have := F.few
  omega
/-- the depth that a part may come to, whatever is added -/
def Dp (P Q : Fm) (l : Tl) (f : Fm) (n : Nat) : Prop := ∀ l' S', UJ P Q (l ++ l') S' → (f.sb S').depth ≤ n
theorem Dp.now {P Q : Fm} {l : Tl} {S : Str → Fm} {f : Fm} {n : Nat} (h : Dp P Q l f n) (U : UJ P Q l S) : (f.sb S).depth ≤ n := h [] S (by rw [List.append_nil]; exact U)
theorem Dp.on {P Q : Fm} {l m : Tl} {f : Fm} {n : Nat} (h : Dp P Q l f n) : Dp P Q (l ++ m) f n := fun l' S' U => h (m ++ l') S' (by rw [← List.append_assoc]; exact U)
theorem cmp_left {l m : Tl} {θ : Str → Fm} (h : Cmp (l ++ m) θ) : Cmp l θ := fun p hp => h p (List.mem_append_left _ hp)
theorem Dp.walk {P Q : Fm} {l : Tl} {S : Str → Fm} {f g : Fm} {n : Nat} (h : Dp P Q l f n) (W : WkJ P Q l S f g) : Dp P Q l g n := fun l' S' U => by rw [W.cm S' (cmp_left U.self)]; exact h l' S' U
theorem Dp.kid {P Q : Fm} {l : Tl} {f k : Fm} {n : Nat} (h : Dp P Q l f (n + 1)) (hl : f.isLt = false) (hk : k ∈ f.kids) : Dp P Q l k n := fun l' S' U => by
  have := Fm.kids_depth (show k.sb S' ∈ (f.sb S').kids by rw [(sb_kids hl).1]; exact List.mem_map.mpr ⟨k, hk, rfl⟩)
  have := h l' S' U
  omega
/-! ### two nodes of one kind -/
theorem kids_same {f g : Fm} (hf : f.isLt = false) (hg : g.isLt = false) (h : f.tag = g.tag) : f.kids.length = g.kids.length := by
  cases f with
  | lt _ => cases hf
  | ng p =>
    cases g with
    | lt _ => cases hg
    | ng q => rfl
    | im q r => exact absurd (show ("not" : Str) = "if" from h) (by decide +kernel)
  | im p p2 =>
    cases g with
    | lt _ => cases hg
    | ng q => exact absurd (show ("if" : Str) = "not" from h) (by decide +kernel)
    | im q r => rfl
theorem kids_eq {f g : Fm} {θ : Str → Fm} (hf : f.isLt = false) (hg : g.isLt = false) (e : f.sb θ = g.sb θ) : f.kids.map (·.sb θ) = g.kids.map (·.sb θ) := by
  rw [← (sb_kids hf).1, ← (sb_kids hg).1, e]
theorem kids_mk {f g : Fm} {θ : Str → Fm} (hf : f.isLt = false) (hg : g.isLt = false) (h : f.tag = g.tag) (e : f.kids.map (·.sb θ) = g.kids.map (·.sb θ)) : f.sb θ = g.sb θ := by
  cases f with
  | lt _ => cases hf
  | ng p =>
    cases g with
    | lt _ => cases hg
    | ng q => exact congrArg Fm.ng (List.cons.inj e).1
    | im q r => exact absurd (show ("not" : Str) = "if" from h) (by decide +kernel)
  | im p p2 =>
    cases g with
    | lt _ => cases hg
    | ng q => exact absurd (show ("if" : Str) = "not" from h) (by decide +kernel)
    | im q r =>
      have h1 : p.sb θ = q.sb θ := (List.cons.inj e).1
      have h2 : p2.sb θ = r.sb θ := (List.cons.inj (List.cons.inj e).2).1
      show Fm.im _ _ = Fm.im _ _
      rw [h1, h2]
theorem dtall_snoc {K : PySem.W.Frag} {H : Hp} {d : PyData} : ∀ {ds : List PyData} {xs : List V}, DtAll K H xs (ds ++ [d]) → ∃ xi v, xs = xi ++ [v] ∧ DtAll K H xi ds ∧ Dt K H v d
  | [], _, .cons h .nil => ⟨[], _, rfl, .nil, h⟩
  | e :: ds, _, .cons h t => by
    obtain ⟨xi, v, rfl, h1, h2⟩ := dtall_snoc (ds := ds) t
    exact ⟨_ :: xi, v, rfl, .cons h h1, h2⟩
end Cs

namespace Cs
open PySem PySem.Spec PyProof.Rows L2
/-! ### the formulas as they are drawn: few letters, few places -/
def L5 : List Str := ["a", "b", "c", "d", "e"]
theorem prt_lt {x : Str} : ∀ {f : Fm}, x ∈ f.lets → Prt (.lt x) f
  | .lt n, h => by rw [List.mem_singleton.mp h]; exact .rfl
  | .ng p, h => .ng (prt_lt (f := p) h)
  | .im p q, h => (List.mem_append.mp h).elim (fun h => .il (prt_lt h)) fun h => .ir (prt_lt h)
theorem una_size : ∀ f : Fm, f.una + 2 * f.lets.length = f.size + 1
  | .lt _ => rfl
  | .ng p => by have := una_size p; show 1 + p.una + 2 * p.lets.length = 1 + p.size + 1; omega
  | .im p q => by
    have := una_size p
    have := una_size q
    show p.una + q.una + 2 * (p.lets ++ q.lets).length = 1 + (p.size + q.size) + 1
    rw [List.length_append]; omega
theorem lets_pos (f : Fm) : 1 ≤ f.lets.length := by
  obtain ⟨y, hy⟩ := f.lets_some
  exact List.length_pos_of_mem hy
theorem dep_lets : ∀ f : Fm, f.depth + f.lets.length ≤ f.size + 1
  | .lt _ => Nat.le_refl _
  | .ng p => by have := dep_lets p; show p.depth + 1 + p.lets.length ≤ 1 + p.size + 1; omega
  | .im p q => by
    have := dep_lets p
    have := dep_lets q
    have := p.depth_pos
    have := q.depth_pos
    show max p.depth q.depth + 1 + (p.lets ++ q.lets).length ≤ 1 + (p.size + q.size) + 1
    rw [List.length_append]; omega
theorem lsum_zero : ∀ {L : List Str} {g : Str → Nat}, (∀ x ∈ L, g x = 0) → lsum g L = 0
  | [], _, _ => rfl
  | x :: L, g, h => by rw [lsum_cons, h x List.mem_cons_self, lsum_zero fun y hy => h y (List.mem_cons_of_mem _ hy)]
theorem lsum_ite {n : Str} {k : Nat} : ∀ {A : List Str}, A.Nodup → lsum (fun y => if n = y then k else 0) A ≤ k
  | [], _ => Nat.zero_le _
  | x :: A, nd => by
    rw [lsum_cons]
    by_cases e : n = x
    · subst e
      rw [if_pos rfl, lsum_zero fun y hy => if_neg fun (e : n = y) => (List.nodup_cons.mp nd).1 (by rw [e]; exact hy)]
      omega
    · have := lsum_ite (n := n) (k := k) (List.nodup_cons.mp nd).2
      rw [if_neg e]; omega
theorem lsum_cnt {A : List Str} (nd : A.Nodup) : ∀ f : Fm, lsum (fun y => f.cnt y) A ≤ f.lets.length
  | .lt n => lsum_ite nd
  | .ng p => lsum_cnt nd p
  | .im p q => by
    have h1 := lsum_cnt nd p
    have h2 := lsum_cnt nd q
    have e : lsum (fun y => (Fm.im p q).cnt y) A = lsum (fun y => p.cnt y) A + lsum (fun y => q.cnt y) A := lsum_add
    rw [e]
    show _ ≤ (p.lets ++ q.lets).length
    rw [List.length_append]; omega
/-- the places of letters for which something is put -/
def mpd (t : Str → Option Fm) : Fm → Nat
  | .lt n => if (t n).isSome then 1 else 0
  | .ng p => mpd t p
  | .im p q => mpd t p + mpd t q
theorem lsum_mpd {A : List Str} {t : Str → Option Fm} (nd : A.Nodup) : ∀ f : Fm, lsum (fun y => if (t y).isSome then f.cnt y else 0) A ≤ mpd t f
  | .lt n => by
    have h := lsum_ite (n := n) (k := mpd t (.lt n)) nd
    refine Nat.le_trans (lsum_mono fun y _ => ?_) h
    show (if (t y).isSome then (if n = y then 1 else 0) else 0) ≤ if n = y then (if (t n).isSome then 1 else 0) else 0
    by_cases e : n = y
    · subst e; rw [if_pos rfl, if_pos rfl]; exact Nat.le_refl _
    · rw [if_neg e, if_neg e]; split <;> exact Nat.le_refl _
  | .ng p => lsum_mpd nd p
  | .im p q => by
    have h1 := lsum_mpd (t := t) nd p
    have h2 := lsum_mpd (t := t) nd q
    have e : lsum (fun y => if (t y).isSome then (Fm.im p q).cnt y else 0) A = lsum (fun y => if (t y).isSome then p.cnt y else 0) A + lsum (fun y => if (t y).isSome then q.cnt y else 0) A := by
      rw [← lsum_add]
      refine congrArg List.sum (List.map_congr_left fun y _ => ?_)
      by_cases c : (t y).isSome
      · rw [if_pos c, if_pos c, if_pos c]; rfl
      · rw [if_neg c, if_neg c, if_neg c]
    rw [e]
    exact Nat.add_le_add h1 h2
theorem put_una {t : Str → Option Fm} : ∀ f : Fm, f.una ≤ (f.put t).una
  | .lt _ => Nat.zero_le _
  | .ng p => Nat.add_le_add_left (put_una p) 1
  | .im p q => Nat.add_le_add (put_una p) (put_una q)
theorem put_cnt {t : Str → Option Fm} {y : Str} (h : t y = none) : ∀ f : Fm, f.cnt y ≤ (f.put t).cnt y
  | .lt n => by
    show (if n = y then 1 else 0) ≤ ((t n).getD (.lt n)).cnt y
    by_cases e : n = y
    · subst e; rw [h]; exact Nat.le_refl _
    · rw [if_neg e]; exact Nat.zero_le _
  | .ng p => put_cnt h p
  | .im p q => Nat.add_le_add (put_cnt h p) (put_cnt h q)
theorem put_size {t : Str → Option Fm} (h : ∀ m g, t m = some g → g.size ≤ 3) : ∀ f : Fm, (f.put t).size + 1 + 2 * mpd t f ≤ f.una + 6 * f.lets.length
  | .lt n => by
    show ((t n).getD (.lt n)).size + 1 + 2 * (if (t n).isSome then 1 else 0) ≤ 0 + 6 * 1
    cases e : t n with
    | none => show 1 + 1 + 2 * 0 ≤ 6; decide
    | some g => have := h n g e; show g.size + 1 + 2 * 1 ≤ 6; omega
  | .ng p => by have := put_size h p; show 1 + (p.put t).size + 1 + 2 * mpd t p ≤ 1 + p.una + 6 * p.lets.length; omega
  | .im p q => by
    have := put_size h p
    have := put_size h q
    show 1 + ((p.put t).size + (q.put t).size) + 1 + 2 * (mpd t p + mpd t q) ≤ p.una + q.una + 6 * (p.lets ++ q.lets).length
    rw [List.length_append]; omega
theorem put_lets {t : Str → Option Fm} (h : ∀ m g, t m = some g → g.lets.length ≤ 2) : ∀ f : Fm, (f.put t).lets.length ≤ 2 * f.lets.length
  | .lt n => by
    show ((t n).getD (.lt n)).lets.length ≤ 2 * 1
    cases e : t n with
    | none => exact (by decide : 1 ≤ 2)
    | some g => exact h n g e
  | .ng p => put_lets h p
  | .im p q => by
    have := put_lets h p
    have := put_lets h q
    show ((p.put t).lets ++ (q.put t).lets).length ≤ 2 * (p.lets ++ q.lets).length
    rw [List.length_append, List.length_append]; omega
theorem put_dep2 {t : Str → Option Fm} (h : ∀ m g, t m = some g → g.depth ≤ 3) (f : Fm) : (f.put t).depth ≤ f.depth + 2 := by
  rw [Fm.put_sb]
  have := Fm.sb_dep_le (S := fun x => (t x).getD (.lt x)) (m := 3) (f := f) fun y _ => by
    cases e : t y with
    | none => exact (by decide : 1 ≤ 3)
    | some g => exact h y g e
  omega
theorem l5_nd : L5.Nodup := by unfold L5; decide +kernel
def A5 (P Q : Fm) : List Str := L5.filter fun y => decide (y ∈ AL P Q)
/-- what the laws draw fits -/
structure Drn (P Q : Fm) : Prop where
  fit : Fit P Q
  dn : ∀ f l S, InF P Q f → UJ P Q l S → (f.sb S).depth ≤ 61
  zn : ∀ f l S, InF P Q f → UJ P Q l S → (f.sb S).size + 1 ≤ 3900
  lt : ∀ x l S, x ∈ AL P Q → UJ P Q l S → (S x).depth ≤ 49
  l5 : ∀ y ∈ AL P Q, y ∈ L5
theorem drn_mk {P Q : Fm} {h c : Nat} (hl : ∀ y ∈ AL P Q, y ∈ L5) (few : (AL P Q).length ≤ 60) (hh : max P.depth Q.depth ≤ h + 1) (h50 : h ≤ 49) (hA : (A5 P Q).length ≤ c + 1) (hc : 1 + h * (c + 1) ≤ 61) (hc2 : 1 + h * c ≤ 49) (hz : mxu P Q + 2 * lsum (mxc P Q) (A5 P Q) ≤ 37) : Drn P Q := by
  have ok5 : ∀ y ∈ L5, PyData.strOk y = true := by
    have s1 : PyData.strOk "a" = true := by decide +kernel
    have s2 : PyData.strOk "b" = true := by decide +kernel
    have s3 : PyData.strOk "c" = true := by decide +kernel
    have s4 : PyData.strOk "d" = true := by decide +kernel
    have s5 : PyData.strOk "e" = true := by decide +kernel
    intro y hy
    unfold L5 at hy
    simp only [List.mem_cons, List.not_mem_nil, or_false] at hy
    rcases hy with rfl | rfl | rfl | rfl | rfl <;> assumption
  have nd : (A5 P Q).Nodup := l5_nd.filter _
  have mem : ∀ y, y ∈ A5 P Q ↔ y ∈ AL P Q := fun y => by
    unfold A5
    rw [List.mem_filter, decide_eq_true_iff]
    exact ⟨fun h => h.2, fun h => ⟨hl y h, h⟩⟩
  have five : (A5 P Q).length ≤ 5 := Nat.le_trans (List.length_filter_le _ _) (by decide)
  refine ⟨⟨fun y hy => ok5 y (hl y hy), by omega, few⟩, fun f l S hf U => ?_, fun f l S hf U => U.size_le nd mem five hz hf, fun x l S hx U => ?_, hl⟩
  · have := U.dep_le nd mem hh hf
    have : h * (A5 P Q).length ≤ h * (c + 1) := Nat.mul_le_mul_left _ hA
    omega
  · have hxA := (mem x).mpr hx
    have pos := List.length_pos_of_mem hxA
    obtain ⟨k, hk⟩ : ∃ k, (A5 P Q).length = k + 1 := ⟨(A5 P Q).length - 1, by omega⟩
    have := U.dep_lt nd mem hh hk hxA
    have : h * k ≤ h * c := Nat.mul_le_mul_left _ (by omega)
    omega
theorem a5_five (P Q : Fm) : (A5 P Q).length ≤ 5 := Nat.le_trans (List.length_filter_le _ _) (by decide)
/-- drawn apart -/
theorem drn_apart {P Q : Fm} (hP : P.size ≤ 12) (hQ : Q.size ≤ 12) (hl : ∀ y ∈ AL P Q, y ∈ L5) : Drn P Q := by
  have nd : (A5 P Q).Nodup := l5_nd.filter _
  have h1 := una_size P
  have h2 := una_size Q
  have h3 := lsum_cnt nd P
  have h4 := lsum_cnt nd Q
  have h5 := dep_lets P
  have h6 := dep_lets Q
  have h7 := lets_pos P
  have h8 := lets_pos Q
  refine drn_mk (h := 11) (c := 4) hl (by unfold AL; rw [List.length_append]; omega) (by omega) (by decide) (a5_five P Q) (by decide) (by decide) ?_
  have h9 : lsum (mxc P Q) (A5 P Q) ≤ lsum (fun y => P.cnt y + Q.cnt y) (A5 P Q) := lsum_mono fun y _ => by unfold mxc; omega
  rw [lsum_add] at h9
  unfold mxu
  omega
/-- one with parts put for its letters -/
theorem drn_put {P : Fm} {t : Str → Option Fm} (hP : P.size ≤ 12) (ht : ∀ m g, t m = some g → g.size ≤ 3) (hl : ∀ y ∈ AL P (P.put t), y ∈ L5) : Drn P (P.put t) := by
  have nd : (A5 P (P.put t)).Nodup := l5_nd.filter _
  have h1 := una_size P
  have h2 := una_size (P.put t)
  have h3 := put_size ht P
  have h4 := lsum_cnt nd (P.put t)
  have h5 := dep_lets P
  have h6 := put_dep2 (t := t) (fun m g e => Nat.le_trans g.depth_le (ht m g e)) P
  have h7 := lets_pos P
  have h8 := lsum_mpd (t := t) nd P
  have h9 := put_una (t := t) P
  have h10 := put_lets (t := t) (fun m g e => by have := ht m g e; have := una_size g; omega) P
  have hz : mxu P (P.put t) + 2 * lsum (mxc P (P.put t)) (A5 P (P.put t)) ≤ 37 := by
    have k1 : lsum (mxc P (P.put t)) (A5 P (P.put t)) ≤ lsum (fun y => (P.put t).cnt y + if (t y).isSome then P.cnt y else 0) (A5 P (P.put t)) := lsum_mono fun y _ => by
      unfold mxc
      cases e : t y with
      | none => have := put_cnt e P; simp only [Option.isSome_none, Bool.false_eq_true, if_false]; omega
      | some g => simp only [Option.isSome_some, if_true]; omega
    rw [lsum_add] at k1
    unfold mxu
    omega
  by_cases c : P.lets.length = 1
  · refine drn_mk (h := 13) (c := 2) hl (by unfold AL; rw [List.length_append]; omega) (by omega) (by decide) ?_ (by decide) (by decide) hz
    have := nodup_len (A5 P (P.put t)) (AL P (P.put t)) nd fun y hy => of_decide_eq_true (List.mem_filter.mp hy).2
    unfold AL at this
    rw [List.length_append] at this
    omega
  · exact drn_mk (h := 12) (c := 4) hl (by unfold AL; rw [List.length_append]; omega) (by omega) (by decide) (a5_five _ _) (by decide) (by decide) hz
/-! ### each is an instance of the other -/
def ifN (S : Str → Fm) : List Str → Fm → Fm
  | [], m => m
  | x :: xs, m => ifN S xs (.im (S x) m)
theorem ifN_sb {S T U : Str → Fm} (h : ∀ x, (S x).sb T = U x) : ∀ (xs : List Str) {m k : Fm}, m.sb T = k → (ifN S xs m).sb T = ifN U xs k
  | [], _, _, e => e
  | x :: xs, m, k, e => ifN_sb h xs (show Fm.im ((S x).sb T) (m.sb T) = Fm.im (U x) k by rw [h x, e])
theorem ifN_snoc (S : Str → Fm) : ∀ (xs : List Str) (x : Str) (m : Fm), ifN S (xs ++ [x]) m = .im (S x) (ifN S xs m)
  | [], _, _ => rfl
  | y :: xs, x, m => ifN_snoc S xs x _
theorem mt_sb {p : Fm} {T : Str → Fm} : (mt p (p.sb T) []).2 = true := by
  have e : p.sb T = p.put fun x => some (T x) := by rw [Fm.put_sb]; rfl
  rw [e]
  obtain ⟨l', h, _⟩ := mt_put (fun x => some (T x)) p [] fun x h => nomatch h
  rw [h]
/-- what the table of a solved one gives -/
theorem look_map {S : Str → Fm} {x : Str} : ∀ {ys : List Str}, look (ys.map fun y => (y, S y)) x = if x ∈ ys then some (S x) else none
  | [] => rfl
  | y :: ys => by
    unfold look
    rw [List.map_cons, List.find?_cons]
    by_cases e : y = x
    · subst e
      rw [if_pos List.mem_cons_self]
      simp
    · have ih := look_map (S := S) (x := x) (ys := ys)
      unfold look at ih
      rw [show decide ((y, S y).1 = x) = false from decide_eq_false e]
      show Option.map _ (List.find? _ _) = _
      rw [ih]
      by_cases m : x ∈ ys
      · rw [if_pos m, if_pos (List.mem_cons_of_mem _ m)]
      · rw [if_neg m, if_neg fun h => (List.mem_cons.mp h).elim (fun z => e z.symm) m]
theorem put_map {P Q : Fm} {l : Tl} {S : Str → Fm} {ys : List Str} (U : UJ P Q l S) (h : ys.Perm (keysT l)) (f : Fm) : f.put (look (ys.map fun y => (y, S y))) = f.sb S := by
  rw [Fm.put_sb]
  refine Fm.sb_congr fun x _ => ?_
  rw [look_map]
  by_cases m : x ∈ ys
  · rw [if_pos m]; rfl
  · rw [if_neg m, U.free x fun z => m (h.mem_iff.mpr z)]; rfl
theorem ifN_dep {S : Str → Fm} {k : Nat} : ∀ {xs : List Str} {m : Fm}, (∀ x ∈ xs, (S x).depth ≤ k) → (ifN S xs m).depth ≤ max k m.depth + xs.length
  | [], _, _ => Nat.le_max_right _ _
  | x :: xs, m, h => by
    have h1 := h x List.mem_cons_self
    have ih := ifN_dep (xs := xs) (m := .im (S x) m) fun y hy => h y (List.mem_cons_of_mem _ hy)
    have e : (Fm.im (S x) m).depth = max (S x).depth m.depth + 1 := rfl
    rw [e] at ih
    show (ifN S xs (.im (S x) m)).depth ≤ max k m.depth + (xs.length + 1)
    omega
theorem ifN_size {S : Str → Fm} {k : Nat} : ∀ {xs : List Str} {m : Fm}, (∀ x ∈ xs, (S x).size ≤ k) → (ifN S xs m).size ≤ m.size + xs.length * (k + 1)
  | [], m, _ => by show m.size ≤ m.size + 0 * (k + 1); omega
  | x :: xs, m, h => by
    have h1 := h x List.mem_cons_self
    have ih := ifN_size (xs := xs) (m := .im (S x) m) fun y hy => h y (List.mem_cons_of_mem _ hy)
    have e : (Fm.im (S x) m).size = 1 + ((S x).size + m.size) := rfl
    rw [e] at ih
    show (ifN S xs (.im (S x) m)).size ≤ m.size + (xs.length + 1) * (k + 1)
    rw [Nat.add_mul, Nat.one_mul]
    omega
theorem ifN_lets {S : Str → Fm} {y : Str} : ∀ {xs : List Str} {m : Fm}, y ∈ (ifN S xs m).lets → (∃ x ∈ xs, y ∈ (S x).lets) ∨ y ∈ m.lets
  | [], _, h => .inr h
  | x :: xs, m, h => by
    rcases ifN_lets (xs := xs) (m := .im (S x) m) h with ⟨z, hz, h⟩ | h
    · exact .inl ⟨z, List.mem_cons_of_mem _ hz, h⟩
    · rcases List.mem_append.mp h with h | h
      · exact .inl ⟨x, List.mem_cons_self, h⟩
      · exact .inr h
/-- what stands for the letters, joined, is a formula that can be handled -/
theorem ifN_fit {P Q : Fm} {l : Tl} {S : Str → Fm} {n0 : Str} {NT : List Str} (D : Drn P Q) (U : UJ P Q l S) (hm : ∀ x ∈ n0 :: NT, x ∈ AL P Q) (h5 : NT.length ≤ 4) : (ifN S NT (S n0)).Pl ∧ (ifN S NT (S n0)).depth ≤ 60 ∧ (ifN S NT (S n0)).size ≤ 30000 := by
  have inL : ∀ x ∈ AL P Q, InF P Q (.lt x) := fun x hx => (List.mem_append.mp hx).elim (fun h => .inl (prt_lt h)) fun h => .inr (prt_lt h)
  have d0 := D.lt n0 l S (hm n0 List.mem_cons_self) U
  have d := ifN_dep (S := S) (k := 49) (xs := NT) (m := S n0) fun x hx => D.lt x l S (hm x (List.mem_cons_of_mem _ hx)) U
  have siz : ∀ x ∈ n0 :: NT, (S x).size ≤ 3900 := fun x hx => by
    have := D.zn (.lt x) l S (inL x (hm x hx)) U
    have e : (Fm.lt x).sb S = S x := rfl
    rw [e] at this
    omega
  have z := ifN_size (S := S) (k := 3900) (xs := NT) (m := S n0) fun x hx => siz x (List.mem_cons_of_mem _ hx)
  have z0 := siz n0 List.mem_cons_self
  have zz : NT.length * (3900 + 1) ≤ 4 * (3900 + 1) := Nat.mul_le_mul_right _ h5
  refine ⟨fun y hy => D.fit.pl y ?_, by omega, by omega⟩
  rcases ifN_lets hy with ⟨x, hx, h⟩ | h
  · exact U.sd x (hm x (List.mem_cons_of_mem _ hx)) y h
  · exact U.sd n0 (hm n0 List.mem_cons_self) y h
end Cs
set_option Elab.async false
set_option linter.all false
set_option maxRecDepth 100000
set_option maxHeartbeats 2000000
namespace Cs
open PySem PySem.Spec PyProof.Rows L2
def top (i : Nat) : Stmt := PySem.Challenge.pw_conceptscript_k80_formulas_are_unified.main.body.getD i (.Pass ⟨0, 0, 0, 0⟩)
abbrev s_walked : Stmt := top 1
abbrev s_occurs : Stmt := top 2
abbrev s_bind : Stmt := top 3
abbrev s_resolved : Stmt := top 4
abbrev s_unify : Stmt := top 5
abbrev s_Lput : Stmt := top 7
abbrev s_Lcell : Stmt := top 8
abbrev s_Ldigits : Stmt := top 9
abbrev s_Lbox : Stmt := top 10
abbrev s_Ldraw : Stmt := top 11
abbrev s_Lany : Stmt := top 12
abbrev s_Lparts : Stmt := top 13
abbrev s_Lnames : Stmt := top 14
abbrev s_Lwalk : Stmt := top 15
abbrev s_Lhas : Stmt := top 16
abbrev s_Lbind : Stmt := top 17
abbrev s_Lsame : Stmt := top 18
abbrev s_Lsolved : Stmt := top 19
abbrev s_Lmatches : Stmt := top 20
abbrev s_law : Stmt := top 21
structure Bn (mg : Str → Option Value) : Prop where
  all : mg "all" = none
  any : mg "any" = none
  bool : mg "bool" = none
  dict : mg "dict" = none
  int : mg "int" = none
  isinstance : mg "isinstance" = none
  len : mg "len" = none
  range : mg "range" = none
  set : mg "set" = none
  sorted : mg "sorted" = none
  str : mg "str" = none
  tuple : mg "tuple" = none
  zip : mg "zip" = none
section
variable {P : Program} {w : World} {K : PySem.W.Frag} {mg : Str → Option Value} {base : Heap}
abbrev N_walked : List Str := ["formula", "table"]
theorem sc_walked : FnScope N_walked ["formula", "table"] (defScope s_walked) := ⟨rfl, rfl, rfl, by decide +kernel, rfl, by decide +kernel, by decide +kernel⟩
def sp_wk (K : PySem.W.Frag) : Sp := fun vs H Q _ => ∃ (v : V) (d : Addr) (f F1 F2 : Fm) (l : Tl) (S : Str → Fm), vs = [v, .ref d] ∧ FmV K H v f ∧ Tk K H d l ∧ UJ F1 F2 l S ∧ InF F1 F2 f ∧
  ∀ (u : V) (g : Fm), FmV K H u g → WkJ F1 F2 l S f g → Q u H
theorem ok_wk (B : Bn mg) (D : Df K mg "walked" s_walked ["formula", "table"]) : Cl CX0 P w K mg base 1 "walked" (sp_wk K) := by
  refine D.ok sc_walked (fun vs H Q E h => ?_) (fun f0 cdv A outer s H vs Q E hr h => ?_)
  · obtain ⟨v, d, f, F1, F2, l, S, rfl, _⟩ := h
    rfl
  obtain ⟨v, d, f, F1, F2, l, S, rfl, hv, hT, U, hf, q⟩ := h
  refine ⟨_, (pss_cons (ps_while PassesOwn.never (PW.pt (pw_and (pt_cmpR op_eq (pe_ix ix_tup (pv 0) pe_int (fun _ _ => rfl)) pe_str (nomark _)) (pw_and1 (pt_cmp (pc_din (hu_of hr) (pe_ix ix_tup (pv 0) pe_int (fun _ _ => rfl)) (pv 1))))))
    (pss_one (ps_set (i := 0) sc_walked.nd rfl (by first | exact Or.inl rfl | exact Or.inr rfl) (pe_dget (hu_of hr) (pv 1) (pe_ix ix_tup (pv 0) pe_int (fun _ _ => rfl)) (fun _ _ => rfl)))))
  (pss_one (ps_ret (pv 0)))), ?_⟩
  obtain ⟨kvs, k1, k2, k3⟩ := hT.ex
  refine ⟨fun m σ H' => H' = H ∧ ∃ u g, σ = [some u, some (.ref d)] ∧ FmV K H u g ∧ InF F1 F2 g ∧ g.sb S = f.sb S ∧ (∀ θ, Cmp l θ → g.sb θ = f.sb θ) ∧ ((∀ x, f = .lt x → x ∉ keysT l) → g = f) ∧ m ≤ l.length ∧ ∀ x, g = .lt x → x ∉ keysT (l.take (l.length - m)), ⟨l.length, rfl, v, f, rfl, hv, hf, rfl, (fun _ _ => rfl), fun _ => rfl, Nat.le_refl _, fun x _ h => by rw [Nat.sub_self] at h; cases h⟩, ?_⟩
  rintro m σ H' ⟨rfl, u, g, rfl, hu, hg, heq, hcm, hst, hml, hm⟩
  cases g with
  | lt x =>
    obtain ⟨a, rfl, ha⟩ := fm_lt hu
    refine ⟨_, rfl, a, _, _, _, rfl, rfl, ha, at0, (by rfl : scal (V.str "letter") (V.str "letter") = true), _, rfl, iteT ?_⟩
    rcases tk_val k2 k3 x with ⟨e1, e2⟩ | ⟨t, u', e1, e2, hu'⟩
    · refine ⟨_, rfl, a, _, _, _, rfl, rfl, ha, at1, _, rfl, d, none, rfl, .inl ⟨kvs, .inr x, .inl k1, rfl, e2.symm⟩, _, rfl, iteF ⟨_, rfl, ?_⟩⟩
      exact q (.ref a) (.lt x) hu ⟨hg, heq, fun y hy => by cases hy; exact look_none.mp e1, hst, hcm⟩
    · obtain ⟨h1, h2⟩ := UJ.one U e1
      obtain ⟨m', hm1, hm2, hm3⟩ := UJ.next U e1 (hm x rfl) hml
      have hk : x ∈ keysT l := List.mem_map.mpr ⟨_, look_memU e1, rfl⟩
      refine ⟨_, rfl, a, _, _, _, rfl, rfl, ha, at1, _, rfl, d, some u', rfl, .inl ⟨kvs, .inr x, .inl k1, rfl, e2.symm⟩, _, rfl, iteT ?_⟩
      refine ⟨fun σ' H2 => H2 = H' ∧ σ' = [some u', some (.ref d)], fun σ' H2 ⟨z1, z2⟩ => ⟨m', hm1, z1, u', t, z2, hu', h2, by rw [← heq, ← h1]; rfl, (fun θ hθ => by rw [← hcm θ hθ]; exact (hθ _ (look_memU e1)).symm), fun hno => ?_, hm2, hm3⟩, ?_⟩
      · have := hst hno
        exact absurd hk (hno x this.symm)
      · exact ⟨_, rfl, _, rfl, a, _, _, _, rfl, rfl, ha, at1, d, u', rfl, .inl ⟨kvs, .inr x, .inl k1, rfl, e2.symm⟩, rfl, rfl⟩
  | ng p =>
    obtain ⟨a, x, rfl, ha, hx⟩ := fm_ng hu
    refine ⟨_, rfl, a, _, _, _, rfl, rfl, ha, at0, (by rfl : scal (V.str "not") (V.str "letter") = true), _, rfl, ?_⟩
    rw [show decide (V.str "not" = V.str "letter") = false by decide +kernel]
    exact iteF (iteF ⟨_, rfl, q (.ref a) (.ng p) hu ⟨hg, heq, (fun y hy => nomatch hy), hst, hcm⟩⟩)
  | im p p2 =>
    obtain ⟨a, x, y, rfl, ha, hx, hy⟩ := fm_im hu
    refine ⟨_, rfl, a, _, _, _, rfl, rfl, ha, at0, (by rfl : scal (V.str "if") (V.str "letter") = true), _, rfl, ?_⟩
    rw [show decide (V.str "if" = V.str "letter") = false by decide +kernel]
    exact iteF (iteF ⟨_, rfl, q (.ref a) (.im p p2) hu ⟨hg, heq, (fun y hy => nomatch hy), hst, hcm⟩⟩)
theorem lets_kids {f : Fm} (h : f.isLt = false) (y : Str) : y ∈ f.lets ↔ ∃ g ∈ f.kids, y ∈ g.lets := by
  cases f with
  | lt _ => cases h
  | ng p => simp [Fm.kids, Fm.lets]
  | im p q => simp [Fm.kids, Fm.lets]
abbrev N_occurs : List Str := ["name", "formula", "table", "part"]
theorem sc_occurs : FnScope N_occurs ["name", "formula", "table"] (defScope s_occurs) := ⟨rfl, rfl, rfl, by decide +kernel, rfl, by decide +kernel, by decide +kernel⟩
def sp_oc (T : Addr) (K : PySem.W.Frag) (n : Nat) : Sp := fun vs H Q _ => ∃ (x : Str) (v : V) (d : Addr) (f F1 F2 : Fm) (l : Tl) (S : Str → Fm), vs = [.str x, v, .ref d] ∧ FmV K H v f ∧ Tk K H d l ∧ UJ F1 F2 l S ∧ InF F1 F2 f ∧ GxR.TabG H T ∧ (f.sb S).depth ≤ n ∧
  ∀ H' : Hp, Gr H H' → Q (.bl (decide (x ∈ (f.sb S).lets))) H'
theorem st_oc {n : Nat} {c T : Addr} (B : Bn mg) (D : DfG K mg "occurs" s_occurs ["name", "formula", "table"] c T) (TB : GxR.TabB base mg c T) (c_walked : Cl CX0 P w K mg base 1 "walked" (sp_wk K)) (c_occurs : Cl CX0 P w K mg base (3 * n) "occurs" (sp_oc T K n)) : Cl CX0 P w K mg base (3 * n + 3) "occurs" (sp_oc T K (n + 1)) := by
  refine D.ok sc_occurs (fun vs H Q E h => ?_) (fun f0 A outer s H vs Q E hr h => ?_)
  · obtain ⟨x, v, d, f, F1, F2, l, S, rfl, _⟩ := h
    rfl
  obtain ⟨x, v, d, f, F1, F2, l, S, rfl, hv, hT, U, hf, hTa, hn, q⟩ := h
  refine ⟨_, (pss_cons (ps_set (i := 1) sc_occurs.nd rfl (by first | exact Or.inl rfl | exact Or.inr rfl) (pc c_walked hr (by omega) rfl ps0 (pa_cons (pv 1) (pa_cons (pv 2) pa_nil))))
  (pss_cons (ps_if (pt_cmpR op_eq (pe_ix ix_tup (pv 1) pe_int (fun _ _ => rfl)) pe_str (nomark _))
    (pss_one (ps_ret (pe_cmpR op_eq (pe_ix ix_tup (pv 1) pe_int (fun _ _ => rfl)) (pv 0) (nomark _))))
    pss_nil)
  (pss_one (ps_ret (pe_anyG (k := 3 * n) (own := [("part", 3)]) (hr.mono (by omega)) (by rfl) B.any rfl sc_occurs.nd TB rfl ⟨blkOk_by (N := N_occurs) (sc := defScope s_occurs) (by decide +kernel), rfl, by decide +kernel, rfl⟩ (pi_tup (pe_slice sl_tup (pv 1) (po_some pe_int) po_none)) (fun _ _ _ _ _ _ _ _ hr => (pg_name (i := 3) sc_occurs.nd rfl (by first | exact Or.inl rfl | exact Or.inr rfl))) (fun _ _ _ _ _ _ _ _ hr => pts_nil) (fun _ _ _ _ _ _ _ _ hr => (pc c_occurs hr (by omega) rfl ps0 (pa_cons (pv 0) (pa_cons (pv 3) (pa_cons (pv 2) pa_nil)))))))))), ?_⟩
  refine ⟨_, rfl, _, rfl, v, d, f, F1, F2, l, S, rfl, hv, hT, U, hf, fun u g hu W => ?_⟩
  cases hl : g.isLt with
  | true =>
    cases g with
    | lt y =>
      obtain ⟨a, rfl, ha⟩ := fm_lt hu
      refine ⟨_, rfl, a, _, _, _, rfl, rfl, ha, at0, (by rfl : scal (V.str "letter") (V.str "letter") = true), _, rfl, iteT ?_⟩
      refine ⟨_, rfl, a, _, _, _, rfl, rfl, ha, at1, _, rfl, (by rfl : scal (V.str y) (V.str x) = true), ?_⟩
      have := q H Gx.refl
      rw [W.lt U] at this
      rw [show decide (V.str y = V.str x) = decide (x ∈ (Fm.lt y).lets) from ?_]
      · exact this
      · by_cases c : y = x
        · subst c; simp [Fm.lets]
        · rw [decide_eq_false (fun z => c (V.str.inj z)), decide_eq_false (show ¬ x ∈ (Fm.lt y).lets from fun z => c (List.mem_singleton.mp z).symm)]
    | ng p => cases hl
    | im p q => cases hl
  | false =>
    obtain ⟨a, xs, rfl, ha, hk⟩ := fm_node hu hl
    have hlen : xs.length = g.kids.length := by rw [hk.len, List.length_map]
    refine ⟨_, rfl, a, _, _, _, rfl, rfl, ha, at0, (by rfl : scal (V.str g.tag) (V.str "letter") = true), _, rfl, ?_⟩
    rw [Fm.tag_ne hl]
    refine iteF ⟨_, rfl, 1, rfl, a, _, rfl, ha, cut_ok _ _, fun c1 hc1 => ?_⟩
    rw [cut_tl]
    generalize z1 : upd H c1 _ = H1
    obtain ⟨g1, e1⟩ := hA_gr z1 hc1
    have hT1 := g1.tab _ hTa
    refine ⟨c1, rfl, ⟨_, SqT.of e1⟩, hT1, fun H2 ht => ?_⟩
    have g2 := gr_tabbed hT1 ht
    have key : x ∈ (f.sb S).lets ↔ ∃ k ∈ g.kids, x ∈ (k.sb S).lets := by
      rw [← W.eq, lets_kids (sb_kids hl).2.2, (sb_kids hl).1]
      constructor
      · rintro ⟨k', hk', hx⟩
        obtain ⟨k, hk, rfl⟩ := List.mem_map.mp hk'
        exact ⟨k, hk, hx⟩
      · rintro ⟨k, hk, hx⟩
        exact ⟨_, List.mem_map.mpr ⟨k, hk, rfl⟩, hx⟩
    refine gt_tup (K := K) (a := c1) (xs := xs) (fun i ys H' => Gr H2 H' ∧ ∀ k ∈ g.kids.take i, x ∉ (k.sb S).lets) ⟨Gx.refl, fun k h => by rw [List.take_zero] at h; cases h⟩ (fun i ys H' _ ⟨g, _⟩ => g.sqT (g2.sqT (SqT.of e1))) ?_ ?_
    · rintro i z ys H' hi ⟨g3, hno⟩
      have hik : i < g.kids.length := by rw [← hlen]; exact (List.getElem?_eq_some_iff.mp hi).1
      obtain ⟨x', ex, hx'⟩ := hk.get (i := i) (d := (g.kids[i]).d) (by rw [List.getElem?_map, List.getElem?_eq_getElem hik]; rfl)
      rw [hi] at ex; cases ex
      have hm : g.kids[i] ∈ g.kids := List.getElem_mem hik
      have hmS : (g.kids[i]).sb S ∈ (g.sb S).kids := by rw [(sb_kids hl).1]; exact List.mem_map.mpr ⟨_, hm, rfl⟩
      have hd := Fm.kids_depth hmS
      rw [W.eq] at hd
      have etk : g.kids.take (i + 1) = g.kids.take i ++ [g.kids[i]] := by rw [List.take_succ, List.getElem?_eq_getElem hik]; rfl
      have knw := W.nw.kid hm
      have gH : Gr H H' := (g1.trans g2).trans g3
      rw [etk]
      refine ⟨rfl, _, rfl, _, rfl, _, rfl, x, z, d, g.kids[i], F1, F2, l, S, rfl, gH.dt hx', hT.gx gH (fun z => nomatch z), U, knw, gH.tab _ hTa, by omega, fun H3 g4 => ⟨_, rfl, ?_⟩⟩
      by_cases c : x ∈ ((g.kids[i]).sb S).lets
      · rw [if_pos (decide_eq_true c)]
        have := q H3 (gH.trans g4)
        rw [decide_eq_true (key.mpr ⟨_, hm, c⟩)] at this
        exact this
      · rw [if_neg (by rw [decide_eq_false c]; decide)]
        refine ⟨g3.trans g4, fun k hk => ?_⟩
        rcases List.mem_append.mp hk with hk | hk
        · exact hno k hk
        · rw [List.mem_singleton.mp hk]; exact c
    · rintro ys H' ⟨g3, hno⟩
      rw [hlen, List.take_length] at hno
      have := q H' ((g1.trans g2).trans g3)
      rw [decide_eq_false (fun z => by obtain ⟨k, hk, hx⟩ := key.mp z; exact hno k hk hx)] at this
      exact this
theorem ok_oc {c T : Addr} (B : Bn mg) (D : DfG K mg "occurs" s_occurs ["name", "formula", "table"] c T) (TB : GxR.TabB base mg c T) (c_walked : Cl CX0 P w K mg base 1 "walked" (sp_wk K)) : ∀ n : Nat, Cl CX0 P w K mg base (3 * n) "occurs" (sp_oc T K n)
  | 0 => D.none fun vs H Q E ⟨_, _, _, f, _, _, _, S, _, _, _, _, _, _, h, _⟩ => by have := (f.sb S).depth_pos; omega
  | n + 1 => st_oc B D TB c_walked (ok_oc B D TB c_walked n)
abbrev N_resolved : List Str := ["formula", "table", "part"]
theorem sc_resolved : FnScope N_resolved ["formula", "table"] (defScope s_resolved) := ⟨rfl, rfl, rfl, by decide +kernel, rfl, by decide +kernel, by decide +kernel⟩
def sp_rs (T : Addr) (K : PySem.W.Frag) (n : Nat) : Sp := fun vs H Q _ => ∃ (v : V) (d : Addr) (f F1 F2 : Fm) (l : Tl) (S : Str → Fm), vs = [v, .ref d] ∧ FmV K H v f ∧ Tk K H d l ∧ UJ F1 F2 l S ∧ InF F1 F2 f ∧ GxR.TabG H T ∧ (f.sb S).depth ≤ n ∧
  ∀ (u : V) (H' : Hp), Gr H H' → FmV K H' u (f.sb S) → Q u H'
theorem st_rs {n : Nat} {c T : Addr} (B : Bn mg) (D : DfG K mg "resolved" s_resolved ["formula", "table"] c T) (TB : GxR.TabB base mg c T) (c_walked : Cl CX0 P w K mg base 1 "walked" (sp_wk K)) (c_resolved : Cl CX0 P w K mg base (3 * n) "resolved" (sp_rs T K n)) : Cl CX0 P w K mg base (3 * n + 3) "resolved" (sp_rs T K (n + 1)) := by
  refine D.ok sc_resolved (fun vs H Q E h => ?_) (fun f0 A outer s H vs Q E hr h => ?_)
  · obtain ⟨v, d, f, F1, F2, l, S, rfl, _⟩ := h
    rfl
  obtain ⟨v, d, f, F1, F2, l, S, rfl, hv, hT, U, hf, hTa, hn, q⟩ := h
  refine ⟨_, (pss_cons (ps_set (i := 0) sc_resolved.nd rfl (by first | exact Or.inl rfl | exact Or.inr rfl) (pc c_walked hr (by omega) rfl ps0 (pa_cons (pv 0) (pa_cons (pv 1) pa_nil))))
  (pss_cons (ps_if (pt_cmpR op_eq (pe_ix ix_tup (pv 0) pe_int (fun _ _ => rfl)) pe_str (nomark _))
    (pss_one (ps_ret (pv 0)))
    pss_nil)
  (pss_one (ps_ret (pe_op op_catT (pe_tup (pa_cons (pe_ix ix_tup (pv 0) pe_int (fun _ _ => rfl)) pa_nil)) (pe_tupG (k := 3 * n) (own := [("part", 2)]) (hr.mono (by omega)) (by rfl) B.tuple rfl sc_resolved.nd TB rfl ⟨blkOk_by (N := N_resolved) (sc := defScope s_resolved) (by decide +kernel), rfl, by decide +kernel, rfl⟩ (pi_tup (pe_slice sl_tup (pv 0) (po_some pe_int) po_none)) (fun _ _ _ _ _ _ _ _ hr => (pg_name (i := 2) sc_resolved.nd rfl (by first | exact Or.inl rfl | exact Or.inr rfl))) (fun _ _ _ _ _ _ _ _ hr => pts_nil) (fun _ _ _ _ _ _ _ _ hr => (pc c_resolved hr (by omega) rfl ps0 (pa_cons (pv 2) (pa_cons (pv 1) pa_nil)))))))))), ?_⟩
  refine ⟨_, rfl, _, rfl, v, d, f, F1, F2, l, S, rfl, hv, hT, U, hf, fun u g hu W => ?_⟩
  cases hl : g.isLt with
  | true =>
    cases g with
    | lt y =>
      obtain ⟨a, rfl, ha⟩ := fm_lt hu
      refine ⟨_, rfl, a, _, _, _, rfl, rfl, ha, at0, (by rfl : scal (V.str "letter") (V.str "letter") = true), _, rfl, iteT ⟨_, rfl, ?_⟩⟩
      exact q _ H Gx.refl (by rw [W.lt U]; exact hu)
    | ng p => cases hl
    | im p q => cases hl
  | false =>
    obtain ⟨a, xs, rfl, ha, hk⟩ := fm_node hu hl
    have hlen : xs.length = g.kids.length := by rw [hk.len, List.length_map]
    refine ⟨_, rfl, a, _, _, _, rfl, rfl, ha, at0, (by rfl : scal (V.str g.tag) (V.str "letter") = true), _, rfl, ?_⟩
    rw [Fm.tag_ne hl]
    have hlen2 : xs.length ≤ 2 := by rw [hlen]; exact g.kids_len
    refine iteF ?_
    refine ⟨_, rfl, a, _, _, _, rfl, rfl, ha, at0, (by show 1 ≤ sizeLine; decide), fun p hp => ?_⟩
    generalize z0 : upd H p _ = H0
    obtain ⟨g0, e0⟩ := hA_gr z0 hp
    refine ⟨_, rfl, 1, rfl, a, _, rfl, g0.sqT ha, cut_ok _ _, fun c1 hc1 => ?_⟩
    rw [cut_tl]
    generalize z1 : upd H0 c1 _ = H1
    obtain ⟨g1, e1⟩ := hA_gr z1 hc1
    have g01 := g0.trans g1
    have hT1 := g01.tab _ hTa
    refine ⟨c1, rfl, ⟨_, SqT.of e1⟩, hT1, fun H2 ht => ?_⟩
    have g2 := gr_tabbed hT1 ht
    refine gt_tup (K := K) (a := c1) (xs := xs) (fun i ys H' => Gr H2 H' ∧ ys.length = i ∧ DtAll K H' ys ((g.kids.take i).map fun k => (k.sb S).d)) ⟨Gx.refl, rfl, .nil⟩ (fun i ys H' _ ⟨g, _⟩ => g.sqT (g2.sqT (SqT.of e1))) ?_ ?_
    · rintro i z ys H' hi ⟨g3, el, hy⟩
      have hik : i < g.kids.length := by rw [← hlen]; exact (List.getElem?_eq_some_iff.mp hi).1
      obtain ⟨x', ex, hx'⟩ := hk.get (i := i) (d := (g.kids[i]).d) (by rw [List.getElem?_map, List.getElem?_eq_getElem hik]; rfl)
      rw [hi] at ex; cases ex
      have hm : g.kids[i] ∈ g.kids := List.getElem_mem hik
      have hmS : (g.kids[i]).sb S ∈ (g.sb S).kids := by rw [(sb_kids hl).1]; exact List.mem_map.mpr ⟨_, hm, rfl⟩
      have hd := Fm.kids_depth hmS
      rw [W.eq] at hd
      have etk : g.kids.take (i + 1) = g.kids.take i ++ [g.kids[i]] := by rw [List.take_succ, List.getElem?_eq_getElem hik]; rfl
      have knw := W.nw.kid hm
      have gH : Gr H H' := (g01.trans g2).trans g3
      rw [etk, List.map_append]
      refine ⟨rfl, _, rfl, _, rfl, z, d, g.kids[i], F1, F2, l, S, rfl, gH.dt hx', hT.gx gH (fun z => nomatch z), U, knw, gH.tab _ hTa, by omega, fun u H3 g4 hu => ⟨szlt (m := 2) (by omega) (by omega), g3.trans g4, by rw [List.length_append, el]; rfl, ?_⟩⟩
      exact DtAll.app (g4.dts hy) (.cons hu .nil)
    · rintro ys H' ⟨g3, el, hy⟩
      rw [hlen, List.take_length] at hy
      refine ⟨szle (m := 2) (by omega) (by omega), fun l' hl2 => ?_⟩
      have gl : Gr H' (upd H' l' (.tup ys)) := Gx.new hl2
      have gp : Gr H0 H' := g1.trans (g2.trans g3)
      have hx0 : xs ≠ [] := fun e => g.kids_ne hl (List.length_eq_zero_iff.mp (by rw [← hlen, e]; rfl))
      refine ⟨p, l', _, _, rfl, rfl, SqT.of (gl.tup _ _ (gp.tup _ _ e0)), SqT.of upd_same, List.cons_ne_nil _ _, szle (m := 3) (by rw [List.length_singleton]; omega) (by omega), fun e9 => ?_, fun _ r hr2 => ?_⟩
      · rw [e9] at el; exact absurd (List.length_eq_zero_iff.mp el.symm) hx0
      · have gr2 : Gr (upd H' l' (.tup ys)) (upd (upd H' l' (.tup ys)) r (.tup ([.str g.tag] ++ ys))) := Gx.new hr2
        refine q _ _ (((g0.trans gp).trans gl).trans gr2) ?_
        rw [← W.eq]
        show Dt K _ _ (g.sb S).d
        rw [Fm.d_node (sb_kids hl).2.2, (sb_kids hl).1, (sb_kids hl).2.1, List.map_map]
        exact .tup (SqT.of upd_same) (.cons (.str _) (gr2.dts (gl.dts hy)))
theorem ok_rs {c T : Addr} (B : Bn mg) (D : DfG K mg "resolved" s_resolved ["formula", "table"] c T) (TB : GxR.TabB base mg c T) (c_walked : Cl CX0 P w K mg base 1 "walked" (sp_wk K)) : ∀ n : Nat, Cl CX0 P w K mg base (3 * n) "resolved" (sp_rs T K n)
  | 0 => D.none fun vs H Q E ⟨_, _, f, _, _, _, S, _, _, _, _, _, _, h, _⟩ => by have := (f.sb S).depth_pos; omega
  | n + 1 => st_rs B D TB c_walked (ok_rs B D TB c_walked n)
theorem Fm.tag_lt {f : Fm} (h : f.isLt = true) : ∃ x, f = .lt x := by
  cases f with
  | lt x => exact ⟨x, rfl⟩
  | ng p => cases h
  | im p q => cases h
abbrev N_bind : List Str := ["formula", "other", "table", "one", "two"]
theorem sc_bind : FnScope N_bind ["formula", "other", "table"] (defScope s_bind) := ⟨rfl, rfl, rfl, by decide +kernel, rfl, by decide +kernel, by decide +kernel⟩
def sp_bl (T1 T2 : Addr) (K : PySem.W.Frag) (n : Nat) : Sp := fun vs H Q _ => ∃ (v u : V) (d : Addr) (f g F1 F2 : Fm) (l : Tl) (S : Str → Fm), vs = [v, u, .ref d] ∧ FmV K H v f ∧ FmV K H u g ∧ Tk K H d l ∧ UJ F1 F2 l S ∧ Fit F1 F2 ∧ InF F1 F2 f ∧ InF F1 F2 g ∧ GxR.TabG H T1 ∧ GxR.TabG H T2 ∧ Dp F1 F2 l g n ∧ (∃ x, f = .lt x ∧ x ∉ keysT l) ∧
  ∀ (r : Bool) (l' : Tl) (S' : Str → Fm) (H' : Hp), Gx [d] H H' → Tk K H' d (l ++ l') → UJ F1 F2 (l ++ l') S' → (r = true → ∀ θ, Cmp (l ++ l') θ ↔ Cmp l θ ∧ f.sb θ = g.sb θ) → (r = false → ∀ θ, Cmp l θ → f.sb θ ≠ g.sb θ) → Q (.bl r) H'
theorem ok_bl {n : Nat} {c T1 T2 : Addr} (B : Bn mg) (D : DfG K mg "bind" s_bind ["formula", "other", "table"] c T2) (TB : GxR.TabB base mg c T2) (c_walked : Cl CX0 P w K mg base 1 "walked" (sp_wk K)) (c_occurs : Cl CX0 P w K mg base (3 * n) "occurs" (sp_oc T1 K n)) : Cl CX0 P w K mg base (3 * n + 4) "bind" (sp_bl T1 T2 K n) := by
  have c_none : Cl CX0 P w K mg base 0 "bind" (fun _ _ _ _ => False) := D.none fun _ _ _ _ h => h
  refine D.ok sc_bind (fun vs H Q E h => ?_) (fun f0 A outer s H vs Q E hr h => ?_)
  · obtain ⟨v, u, d, f, g, F1, F2, l, S, rfl, _⟩ := h
    rfl
  obtain ⟨v, u, d, f, g, F1, F2, l, S, rfl, hv, hu, hT, U, F, hf, hg, hT1, hT2, hn2, hx0, q⟩ := h
  refine ⟨_, (pss_cons (ps_set (i := 0) sc_bind.nd rfl (by first | exact Or.inl rfl | exact Or.inr rfl) (pc c_walked hr (by omega) rfl ps0 (pa_cons (pv 0) (pa_cons (pv 2) pa_nil))))
  (pss_cons (ps_set (i := 1) sc_bind.nd rfl (by first | exact Or.inl rfl | exact Or.inr rfl) (pc c_walked hr (by omega) rfl ps0 (pa_cons (pv 1) (pa_cons (pv 2) pa_nil))))
  (pss_cons (ps_if (pt_cmpR (op_eqD hr.units) (pv 0) (pv 1) (nomark _))
    (pss_one (ps_ret pe_bl))
    pss_nil)
  (pss_cons (ps_if (pt_cmpR op_eq (pe_ix ix_tup (pv 0) pe_int (fun _ _ => rfl)) pe_str (nomark _))
    (pss_cons (ps_if (pt_val (pc c_occurs hr (by omega) rfl ps0 (pa_cons (pe_ix ix_tup (pv 0) pe_int (fun _ _ => rfl)) (pa_cons (pv 1) (pa_cons (pv 2) pa_nil)))))
    (pss_one (ps_ret pe_bl))
    pss_nil)
  (pss_cons (ps_dput (hu_of hr) (pv 2) (pe_ix ix_tup (pv 0) pe_int (fun _ _ => rfl)) (pv 1) rfl)
  (pss_one (ps_ret pe_bl))))
    pss_nil)
  (pss_cons (ps_if (pt_cmpR op_eq (pe_ix ix_tup (pv 1) pe_int (fun _ _ => rfl)) pe_str (nomark _))
    (pss_one (ps_ret (pc c_none hr (by omega) rfl ps0 (pa_cons (pv 1) (pa_cons (pv 0) (pa_cons (pv 2) pa_nil))))))
    pss_nil)
  (pss_cons (ps_if (pt_cmpR op_ne (pe_ix ix_tup (pv 0) pe_int (fun _ _ => rfl)) (pe_ix ix_tup (pv 1) pe_int (fun _ _ => rfl)) (nomark _))
    (pss_one (ps_ret pe_bl))
    pss_nil)
  (pss_one (ps_ret (pe_allG (k := 0) (own := [("one", 3), ("two", 4)]) (hr.mono (by omega)) (by rfl) B.all rfl sc_bind.nd TB rfl ⟨blkOk_by (N := N_bind) (sc := defScope s_bind) (by decide +kernel), rfl, by decide +kernel, rfl⟩ (RZ.pi_zipA (by rfl) B.zip (pa_cons (pe_slice sl_tup (pv 0) (po_some pe_int) po_none) (pa_cons (pe_slice sl_tup (pv 1) (po_some pe_int) po_none) pa_nil))) (fun _ _ _ _ _ _ _ _ hr => (pg_tupK (n := 2) (K := K) rfl rfl (pgs_cons (pg_name (i := 3) sc_bind.nd rfl (by first | exact Or.inl rfl | exact Or.inr rfl)) (pgs_cons (pg_name (i := 4) sc_bind.nd rfl (by first | exact Or.inl rfl | exact Or.inr rfl)) pgs_nil)))) (fun _ _ _ _ _ _ _ _ hr => pts_nil) (fun _ _ _ _ _ _ _ _ hr => (pc c_none hr (by omega) rfl ps0 (pa_cons (pv 3) (pa_cons (pv 4) (pa_cons (pv 2) pa_nil)))))))))))))), ?_⟩
  refine ⟨_, rfl, _, rfl, v, d, f, F1, F2, l, S, rfl, hv, hT, U, hf, fun v1 f1 hv1 W1 => ?_⟩
  refine ⟨_, rfl, _, rfl, u, d, g, F1, F2, l, S, rfl, hu, hT, U, hg, fun u1 g1 hu1 W2 => ?_⟩
  have ok1 : f1.Ok := W1.nw.ok F
  have ok2 : g1.Ok := W2.nw.ok F
  refine ⟨_, rfl, _, rfl, f1.d, g1.d, Dt.dp _ _ hv1, Dt.dp _ _ hu1, ok1.sh, ok2.sh, _, rfl, ?_⟩
  rw [Fm.d_eqv]
  have hT0 : Tk K H d (l ++ []) := by rw [List.append_nil]; exact hT
  have U0 : UJ F1 F2 (l ++ []) S := by rw [List.append_nil]; exact U
  by_cases ceq : f1 = g1
  · rw [decide_eq_true ceq]
    refine iteT (q true [] S H Gx.refl hT0 U0 (fun _ θ => ?_) fun e => nomatch e)
    rw [List.append_nil]
    exact ⟨fun h => ⟨h, by rw [← W1.cm θ h, ← W2.cm θ h, ceq]⟩, fun h => h.1⟩
  rw [decide_eq_false ceq]
  refine iteF ?_
  cases hl : f1.isLt with
  | true =>
    obtain ⟨x, rfl⟩ := Fm.tag_lt hl
    obtain ⟨a, rfl, ha⟩ := fm_lt hv1
    have hxk := W1.no x rfl
    have hxn : x ∈ AL F1 F2 := W1.nw.lets x (List.mem_singleton_self _)
    refine ⟨_, rfl, a, _, _, _, rfl, rfl, ha, at0, (by rfl : scal (V.str "letter") (V.str "letter") = true), _, rfl, iteT ?_⟩
    refine ⟨_, rfl, a, _, _, _, rfl, rfl, ha, at1, _, rfl, _, rfl, x, u1, d, g1, F1, F2, l, S, rfl, hu1, hT, U, W2.nw, hT1, (Dp.walk hn2 W2).now U, fun H1 k1 => ⟨_, rfl, ?_⟩⟩
    by_cases hoc : x ∈ (g1.sb S).lets
    · rw [decide_eq_true hoc]
      refine iteT (q false [] S H1 (Gx.wk k1) (hT0.gx k1 fun m => nomatch m) U0 (fun e => nomatch e) fun _ θ h e => ?_)
      rw [← W1.cm θ h, ← W2.cm θ h] at e
      exact U.occ hoc W2.no (fun z => ceq z.symm) h e
    rw [decide_eq_false hoc]
    have T1' := hT.gx k1 (fun m => nomatch m)
    obtain ⟨kvs, b1, b2, b3⟩ := T1'.ex
    have hno : look l x = none := look_none.mpr hxk
    have hrm := U.room F
    have T2' := Tk.app (f := g1) (v := u1) b1 b2 b3 hno (k1.dt hu1)
    have kl : kvs.length = l.length := tk_len b2
    refine iteF ⟨_, rfl, _, rfl, _, rfl, a, _, _, _, rfl, rfl, k1.sqT ha, at1, d, _, rfl, DPut.k (k := Sum.inr x) b1 (szlt (m := 1000) (by omega) (by omega)), ?_⟩
    have gs : Gx [d] H1 (upd H1 d (.dK (putK kvs (.inr x) u1))) := Gx.set b1 rfl
    refine q true [(x, g1)] (stpU S x g1) _ ((Gx.wk k1).trans gs) T2' (U.add hxk hxn W2.nw W2.no (fun z => ceq z.symm) hoc) (fun _ θ => ?_) fun e => nomatch e
    rw [cmp_app]
    refine and_congr_right fun h => ?_
    rw [← W1.cm θ h, ← W2.cm θ h]
    exact Iff.rfl
  | false =>
    obtain ⟨x, rfl, hx⟩ := hx0
    rw [W1.st fun y hy => by cases hy; exact hx] at hl
    cases hl
def sp_bd (T1 T2 : Addr) (K : PySem.W.Frag) (n : Nat) : Sp := fun vs H Q _ => ∃ (v u : V) (d : Addr) (f g F1 F2 : Fm) (l : Tl) (S : Str → Fm), vs = [v, u, .ref d] ∧ FmV K H v f ∧ FmV K H u g ∧ Tk K H d l ∧ UJ F1 F2 l S ∧ Fit F1 F2 ∧ InF F1 F2 f ∧ InF F1 F2 g ∧ GxR.TabG H T1 ∧ GxR.TabG H T2 ∧ Dp F1 F2 l f n ∧ Dp F1 F2 l g n ∧
  ∀ (r : Bool) (l' : Tl) (S' : Str → Fm) (H' : Hp), Gx [d] H H' → Tk K H' d (l ++ l') → UJ F1 F2 (l ++ l') S' → (r = true → ∀ θ, Cmp (l ++ l') θ ↔ Cmp l θ ∧ f.sb θ = g.sb θ) → (r = false → ∀ θ, Cmp l θ → f.sb θ ≠ g.sb θ) → Q (.bl r) H'
theorem st_bd {n : Nat} {c T1 T2 : Addr} (B : Bn mg) (D : DfG K mg "bind" s_bind ["formula", "other", "table"] c T2) (TB : GxR.TabB base mg c T2) (c_walked : Cl CX0 P w K mg base 1 "walked" (sp_wk K)) (c_occurs : Cl CX0 P w K mg base (3 * (n + 1)) "occurs" (sp_oc T1 K (n + 1))) (c_bl : Cl CX0 P w K mg base (3 * (n + 1) + 4) "bind" (sp_bl T1 T2 K (n + 1))) (c_bind : Cl CX0 P w K mg base (3 * n + 5) "bind" (sp_bd T1 T2 K n)) : Cl CX0 P w K mg base (3 * (n + 1) + 5) "bind" (sp_bd T1 T2 K (n + 1)) := by
  refine D.ok sc_bind (fun vs H Q E h => ?_) (fun f0 A outer s H vs Q E hr h => ?_)
  · obtain ⟨v, u, d, f, g, F1, F2, l, S, rfl, _⟩ := h
    rfl
  obtain ⟨v, u, d, f, g, F1, F2, l, S, rfl, hv, hu, hT, U, F, hf, hg, hT1, hT2, hn1, hn2, q⟩ := h
  refine ⟨_, (pss_cons (ps_set (i := 0) sc_bind.nd rfl (by first | exact Or.inl rfl | exact Or.inr rfl) (pc c_walked hr (by omega) rfl ps0 (pa_cons (pv 0) (pa_cons (pv 2) pa_nil))))
  (pss_cons (ps_set (i := 1) sc_bind.nd rfl (by first | exact Or.inl rfl | exact Or.inr rfl) (pc c_walked hr (by omega) rfl ps0 (pa_cons (pv 1) (pa_cons (pv 2) pa_nil))))
  (pss_cons (ps_if (pt_cmpR (op_eqD hr.units) (pv 0) (pv 1) (nomark _))
    (pss_one (ps_ret pe_bl))
    pss_nil)
  (pss_cons (ps_if (pt_cmpR op_eq (pe_ix ix_tup (pv 0) pe_int (fun _ _ => rfl)) pe_str (nomark _))
    (pss_cons (ps_if (pt_val (pc c_occurs hr (by omega) rfl ps0 (pa_cons (pe_ix ix_tup (pv 0) pe_int (fun _ _ => rfl)) (pa_cons (pv 1) (pa_cons (pv 2) pa_nil)))))
    (pss_one (ps_ret pe_bl))
    pss_nil)
  (pss_cons (ps_dput (hu_of hr) (pv 2) (pe_ix ix_tup (pv 0) pe_int (fun _ _ => rfl)) (pv 1) rfl)
  (pss_one (ps_ret pe_bl))))
    pss_nil)
  (pss_cons (ps_if (pt_cmpR op_eq (pe_ix ix_tup (pv 1) pe_int (fun _ _ => rfl)) pe_str (nomark _))
    (pss_one (ps_ret (pc c_bl hr (by omega) rfl ps0 (pa_cons (pv 1) (pa_cons (pv 0) (pa_cons (pv 2) pa_nil))))))
    pss_nil)
  (pss_cons (ps_if (pt_cmpR op_ne (pe_ix ix_tup (pv 0) pe_int (fun _ _ => rfl)) (pe_ix ix_tup (pv 1) pe_int (fun _ _ => rfl)) (nomark _))
    (pss_one (ps_ret pe_bl))
    pss_nil)
  (pss_one (ps_ret (pe_allG (k := 3 * n + 5) (own := [("one", 3), ("two", 4)]) (hr.mono (by omega)) (by rfl) B.all rfl sc_bind.nd TB rfl ⟨blkOk_by (N := N_bind) (sc := defScope s_bind) (by decide +kernel), rfl, by decide +kernel, rfl⟩ (RZ.pi_zipA (by rfl) B.zip (pa_cons (pe_slice sl_tup (pv 0) (po_some pe_int) po_none) (pa_cons (pe_slice sl_tup (pv 1) (po_some pe_int) po_none) pa_nil))) (fun _ _ _ _ _ _ _ _ hr => (pg_tupK (n := 2) (K := K) rfl rfl (pgs_cons (pg_name (i := 3) sc_bind.nd rfl (by first | exact Or.inl rfl | exact Or.inr rfl)) (pgs_cons (pg_name (i := 4) sc_bind.nd rfl (by first | exact Or.inl rfl | exact Or.inr rfl)) pgs_nil)))) (fun _ _ _ _ _ _ _ _ hr => pts_nil) (fun _ _ _ _ _ _ _ _ hr => (pc c_bind hr (by omega) rfl ps0 (pa_cons (pv 3) (pa_cons (pv 4) (pa_cons (pv 2) pa_nil)))))))))))))), ?_⟩
  refine ⟨_, rfl, _, rfl, v, d, f, F1, F2, l, S, rfl, hv, hT, U, hf, fun v1 f1 hv1 W1 => ?_⟩
  refine ⟨_, rfl, _, rfl, u, d, g, F1, F2, l, S, rfl, hu, hT, U, hg, fun u1 g1 hu1 W2 => ?_⟩
  have ok1 : f1.Ok := W1.nw.ok F
  have ok2 : g1.Ok := W2.nw.ok F
  refine ⟨_, rfl, _, rfl, f1.d, g1.d, Dt.dp _ _ hv1, Dt.dp _ _ hu1, ok1.sh, ok2.sh, _, rfl, ?_⟩
  rw [Fm.d_eqv]
  have hT0 : Tk K H d (l ++ []) := by rw [List.append_nil]; exact hT
  have U0 : UJ F1 F2 (l ++ []) S := by rw [List.append_nil]; exact U
  by_cases ceq : f1 = g1
  · rw [decide_eq_true ceq]
    refine iteT (q true [] S H Gx.refl hT0 U0 (fun _ θ => ?_) fun e => nomatch e)
    rw [List.append_nil]
    exact ⟨fun h => ⟨h, by rw [← W1.cm θ h, ← W2.cm θ h, ceq]⟩, fun h => h.1⟩
  rw [decide_eq_false ceq]
  refine iteF ?_
  cases hl : f1.isLt with
  | true =>
    obtain ⟨x, rfl⟩ := Fm.tag_lt hl
    obtain ⟨a, rfl, ha⟩ := fm_lt hv1
    have hxk := W1.no x rfl
    have hxn : x ∈ AL F1 F2 := W1.nw.lets x (List.mem_singleton_self _)
    refine ⟨_, rfl, a, _, _, _, rfl, rfl, ha, at0, (by rfl : scal (V.str "letter") (V.str "letter") = true), _, rfl, iteT ?_⟩
    refine ⟨_, rfl, a, _, _, _, rfl, rfl, ha, at1, _, rfl, _, rfl, x, u1, d, g1, F1, F2, l, S, rfl, hu1, hT, U, W2.nw, hT1, (Dp.walk hn2 W2).now U, fun H1 k1 => ⟨_, rfl, ?_⟩⟩
    by_cases hoc : x ∈ (g1.sb S).lets
    · rw [decide_eq_true hoc]
      refine iteT (q false [] S H1 (Gx.wk k1) (hT0.gx k1 fun m => nomatch m) U0 (fun e => nomatch e) fun _ θ h e => ?_)
      rw [← W1.cm θ h, ← W2.cm θ h] at e
      exact U.occ hoc W2.no (fun z => ceq z.symm) h e
    rw [decide_eq_false hoc]
    have T1' := hT.gx k1 (fun m => nomatch m)
    obtain ⟨kvs, b1, b2, b3⟩ := T1'.ex
    have hno : look l x = none := look_none.mpr hxk
    have hrm := U.room F
    have T2' := Tk.app (f := g1) (v := u1) b1 b2 b3 hno (k1.dt hu1)
    have kl : kvs.length = l.length := tk_len b2
    refine iteF ⟨_, rfl, _, rfl, _, rfl, a, _, _, _, rfl, rfl, k1.sqT ha, at1, d, _, rfl, DPut.k (k := Sum.inr x) b1 (szlt (m := 1000) (by omega) (by omega)), ?_⟩
    have gs : Gx [d] H1 (upd H1 d (.dK (putK kvs (.inr x) u1))) := Gx.set b1 rfl
    refine q true [(x, g1)] (stpU S x g1) _ ((Gx.wk k1).trans gs) T2' (U.add hxk hxn W2.nw W2.no (fun z => ceq z.symm) hoc) (fun _ θ => ?_) fun e => nomatch e
    rw [cmp_app]
    refine and_congr_right fun h => ?_
    rw [← W1.cm θ h, ← W2.cm θ h]
    exact Iff.rfl
  | false =>
    obtain ⟨a, xs, rfl, ha, hk⟩ := fm_node hv1 hl
    have hlen : xs.length = f1.kids.length := by rw [hk.len, List.length_map]
    refine ⟨_, rfl, a, _, _, _, rfl, rfl, ha, at0, (by rfl : scal (V.str f1.tag) (V.str "letter") = true), _, rfl, ?_⟩
    rw [Fm.tag_ne hl]
    refine iteF ?_
    cases hl2 : g1.isLt with
    | true =>
      obtain ⟨y, rfl⟩ := Fm.tag_lt hl2
      obtain ⟨b, rfl, hb⟩ := fm_lt hu1
      refine ⟨_, rfl, b, _, _, _, rfl, rfl, hb, at0, (by rfl : scal (V.str "letter") (V.str "letter") = true), _, rfl, iteT ?_⟩
      refine ⟨_, rfl, _, rfl, _, rfl, .ref b, .ref a, d, .lt y, f1, F1, F2, l, S, rfl, hu1, hv1, hT, U, F, W2.nw, W1.nw, hT1, hT2, Dp.walk hn1 W1, ⟨y, rfl, W2.no y rfl⟩, fun r l' S' H' k1 T' U' ht hf' => q r l' S' H' k1 T' U' (fun e θ => ?_) fun e θ h => ?_⟩
      · rw [ht e θ]
        refine and_congr_right fun h => ?_
        rw [← W1.cm θ h, ← W2.cm θ h]
        exact eq_comm
      · rw [← W1.cm θ h, ← W2.cm θ h]
        exact (hf' e θ h).symm
    | false =>
      obtain ⟨b, zs, rfl, hb, hk2⟩ := fm_node hu1 hl2
      have hlen2 : zs.length = g1.kids.length := by rw [hk2.len, List.length_map]
      refine ⟨_, rfl, b, _, _, _, rfl, rfl, hb, at0, (by rfl : scal (V.str g1.tag) (V.str "letter") = true), _, rfl, ?_⟩
      rw [Fm.tag_ne hl2]
      refine iteF ⟨_, rfl, a, _, _, _, rfl, rfl, ha, at0, _, rfl, b, _, _, _, rfl, rfl, hb, at0, (by rfl : scal (V.str f1.tag) (V.str g1.tag) = true), _, rfl, ?_⟩
      by_cases etag : f1.tag = g1.tag
      case neg =>
        rw [decide_eq_false fun e => etag (V.str.inj e)]
        refine iteT (q false [] S H Gx.refl hT0 U0 (fun e => nomatch e) fun _ θ h e => ?_)
        rw [← W1.cm θ h, ← W2.cm θ h] at e
        have := congrArg Fm.tag e
        rw [(sb_kids hl).2.1, (sb_kids hl2).2.1] at this
        exact etag this
      have ekl : f1.kids.length = g1.kids.length := kids_same hl hl2 etag
      rw [etag, decide_eq_true rfl]
      refine iteF ⟨_, rfl, 1, rfl, a, _, rfl, ha, cut_ok _ _, fun c1 hc1 => ?_⟩
      rw [cut_tl]
      generalize z1 : upd H c1 _ = H1
      obtain ⟨k1, e1⟩ := hA_gr z1 hc1
      refine ⟨_, rfl, 1, rfl, b, _, rfl, k1.sqT hb, cut_ok _ _, fun c2 hc2 => ?_⟩
      rw [cut_tl]
      generalize z2 : upd H1 c2 _ = H2
      obtain ⟨k2, e2⟩ := hA_gr z2 hc2
      have k02 := k1.trans k2
      have hT2' := k02.tab _ hT2
      refine ⟨c1, c2, xs, zs, rfl, .inr ⟨k2.sqT (SqT.of e1), SqT.of e2, hT2', fun H3 ht3 => ?_⟩⟩
      have k3 := gr_tabbed hT2' ht3
      have k03 := k02.trans k3
      have D1 := Dp.walk hn1 W1
      have D2 := Dp.walk hn2 W2
      refine gt_zipT (K := K) (a := c1) (b := c2) (xs := xs) (zs := zs) (by omega) (fun i ys H' => ∃ li Si, Gx [d] H3 H' ∧ Tk K H' d (l ++ li) ∧ UJ F1 F2 (l ++ li) Si ∧ ∀ θ, Cmp (l ++ li) θ ↔ Cmp l θ ∧ (f1.kids.take i).map (·.sb θ) = (g1.kids.take i).map (·.sb θ))
        ⟨[], S, Gx.refl, hT0.gx k03 (fun z => nomatch z), U0, fun θ => by rw [List.append_nil]; simp⟩ (fun i ys H' _ ⟨_, _, g, _⟩ => ⟨g.sqT (k3.sqT (k2.sqT (SqT.of e1))), g.sqT (k3.sqT (SqT.of e2))⟩) ?_ ?_
      · rintro i x z ys T4 H4 hx hzz ⟨li, Si, k4, Tl4, U4, c4⟩ hT4
        have hi1 : i < f1.kids.length := by rw [← hlen]; exact (List.getElem?_eq_some_iff.mp hx).1
        have hi2 : i < g1.kids.length := by omega
        obtain ⟨x', ex, hx'⟩ := hk.get (i := i) (d := (f1.kids[i]).d) (by rw [List.getElem?_map, List.getElem?_eq_getElem hi1]; rfl)
        rw [hx] at ex; cases ex
        obtain ⟨z', ez, hz'⟩ := hk2.get (i := i) (d := (g1.kids[i]).d) (by rw [List.getElem?_map, List.getElem?_eq_getElem hi2]; rfl)
        rw [hzz] at ez; cases ez
        have hm1 : f1.kids[i] ∈ f1.kids := List.getElem_mem hi1
        have hm2 : g1.kids[i] ∈ g1.kids := List.getElem_mem hi2
        have tk1 : f1.kids.take (i + 1) = f1.kids.take i ++ [f1.kids[i]] := by rw [List.take_succ, List.getElem?_eq_getElem hi1]; rfl
        have tk2 : g1.kids.take (i + 1) = g1.kids.take i ++ [g1.kids[i]] := by rw [List.take_succ, List.getElem?_eq_getElem hi2]; rfl
        have ef1 : f1.kids[i]? = some f1.kids[i] := List.getElem?_eq_getElem hi1
        have eg1 : g1.kids[i]? = some g1.kids[i] := List.getElem?_eq_getElem hi2
        have lenT : ((f1.kids.take i)).length = ((g1.kids.take i)).length := by rw [List.length_take, List.length_take]; omega
        have gT : Gr H4 (upd H4 T4 (.tup [x, z])) := Gx.new hT4
        have e4 : (upd H4 T4 (.tup [x, z])) T4 = some (.tup [x, z]) := upd_same
        generalize upd H4 T4 (.tup [x, z]) = H5 at gT e4 ⊢
        have gH : Gx [d] H H5 := ((Gx.wk k03).trans k4).trans (Gx.wk gT)
        refine ⟨T4, _, rfl, SqT.of e4, rfl, _, _, rfl, _, _, rfl, rfl, rfl, _, rfl, _, rfl, _, rfl, x, z, d, f1.kids[i], g1.kids[i], F1, F2, l ++ li, Si, rfl, gH.dt hx', gH.dt hz', Tl4.gx gT (fun m => nomatch m), U4, F, W1.nw.kid hm1, W2.nw.kid hm2, gH.tab _ hT1, gH.tab _ hT2, (D1.kid hl hm1).on, (D2.kid hl2 hm2).on, fun r l' S' H6 g6 T6 U6 ht hf' => ⟨_, rfl, ?_⟩⟩
        rw [List.append_assoc] at T6 U6 ht
        cases r with
        | true =>
          rw [if_neg (by decide)]
          refine ⟨li ++ l', S', (k4.trans (Gx.wk gT)).trans g6, T6, U6, fun θ => ?_⟩
          rw [ht rfl θ, c4 θ, tk1, tk2, List.map_append, List.map_append, and_assoc]
          refine and_congr_right fun _ => ⟨fun ⟨h1, h2⟩ => by rw [h1]; exact congrArg _ (congrArg (fun z => [z]) h2), fun h => ?_⟩
          have hh := List.append_inj h (by rw [List.length_map, List.length_map]; exact lenT)
          exact ⟨hh.1, (List.cons.inj hh.2).1⟩
        | false =>
          rw [if_pos rfl]
          refine q false (li ++ l') S' H6 (gH.trans g6) T6 U6 (fun e => nomatch e) fun _ θ h e => ?_
          rw [← W1.cm θ h, ← W2.cm θ h] at e
          have ek := kids_eq hl hl2 e
          have ek2 : (f1.kids.take i).map (·.sb θ) = (g1.kids.take i).map (·.sb θ) := by rw [List.map_take, List.map_take, ek]
          have h4 := (c4 θ).mpr ⟨h, ek2⟩
          refine hf' rfl θ h4 ?_
          have h5 := congrArg (fun l => l[i]?) ek
          simp only [List.getElem?_map, ef1, eg1, Option.map_some] at h5
          exact Option.some.inj h5
      · rintro ys H4 ⟨li, Si, k4, Tl4, U4, c4⟩
        refine q true li Si H4 ((Gx.wk k03).trans k4) Tl4 U4 (fun _ θ => ?_) fun e => nomatch e
        rw [c4 θ, hlen, List.take_length, List.take_of_length_le (by omega)]
        refine and_congr_right fun h => ?_
        rw [← W1.cm θ h, ← W2.cm θ h]
        exact ⟨fun e => kids_mk hl hl2 etag e, fun e => kids_eq hl hl2 e⟩
theorem ok_bd {c T1 T2 : Addr} (B : Bn mg) (D : DfG K mg "bind" s_bind ["formula", "other", "table"] c T2) (TB : GxR.TabB base mg c T2) (c_walked : Cl CX0 P w K mg base 1 "walked" (sp_wk K)) (c_occurs : ∀ n, Cl CX0 P w K mg base (3 * n) "occurs" (sp_oc T1 K n)) : ∀ n : Nat, Cl CX0 P w K mg base (3 * n + 5) "bind" (sp_bd T1 T2 K n)
  | 0 => D.none fun vs H Q E ⟨_, _, _, f, _, _, _, _, S, _, _, _, _, U, _, _, _, _, _, h, _⟩ => by have := (f.sb S).depth_pos; have := h.now U; omega
  | n + 1 => st_bd B D TB c_walked (c_occurs (n + 1)) (ok_bl B D TB c_walked (c_occurs (n + 1))) (ok_bd B D TB c_walked c_occurs n)
abbrev N_unify : List Str := ["formula", "other", "table", "name"]
theorem sc_unify : FnScope N_unify ["formula", "other"] (defScope s_unify) := ⟨rfl, rfl, rfl, by decide +kernel, rfl, by decide +kernel, by decide +kernel⟩
def sp_un (T1 T2 T3 : Addr) (K : PySem.W.Frag) (n : Nat) : Sp := fun vs H Q _ => ∃ (v u : V) (F1 F2 : Fm), vs = [v, u] ∧ FmV K H v F1 ∧ FmV K H u F2 ∧ Fit F1 F2 ∧ GxR.TabG H T1 ∧ GxR.TabG H T2 ∧ GxR.TabG H T3 ∧ Dp F1 F2 [] F1 n ∧ Dp F1 F2 [] F2 n ∧ (∀ f l S, InF F1 F2 f → UJ F1 F2 l S → (f.sb S).depth ≤ n) ∧
  (∀ H' : Hp, Gr H H' → (∀ θ, F1.sb θ ≠ F2.sb θ) → Q .non H') ∧
  (∀ (d : Addr) (l : Tl) (S : Str → Fm) (ys : List Str) (H' : Hp), Gr H H' → UJ F1 F2 l S → (∀ θ, Cmp l θ ↔ F1.sb θ = F2.sb θ) → ys.Perm (keysT l) → Tk K H' d (ys.map fun x => (x, S x)) → Q (.ref d) H')
theorem ok_un {n : Nat} {T1 T2 T3 : Addr} (B : Bn mg) (D : Df K mg "unify" s_unify ["formula", "other"]) (c_bind : Cl CX0 P w K mg base (3 * n + 5) "bind" (sp_bd T1 T2 K n)) (c_resolved : Cl CX0 P w K mg base (3 * n) "resolved" (sp_rs T3 K n)) : Cl CX0 P w K mg base (3 * n + 6) "unify" (sp_un T1 T2 T3 K n) := by
  refine D.ok sc_unify (fun vs H Q E h => ?_) (fun f0 cdv A outer s H vs Q E hr h => ?_)
  · obtain ⟨v, u, F1, F2, rfl, _⟩ := h
    rfl
  obtain ⟨v, u, F1, F2, rfl, hv, hu, F, hT1, hT2, hT3, d1, d2, dn, q0, q1⟩ := h
  refine ⟨_, (pss_cons (ps_set (i := 2) sc_unify.nd rfl (by first | exact Or.inl rfl | exact Or.inr rfl) pe_dnewK)
  (pss_cons (ps_if (pt_not (pt_val (pc c_bind hr (by omega) rfl ps0 (pa_cons (pv 0) (pa_cons (pv 1) (pa_cons (pv 2) pa_nil))))))
    (pss_one (ps_ret pe_non))
    pss_nil)
  (pss_one (ps_ret (pe_dc (own := [("name", 3)]) rfl sc_unify.nd (pi_list (pe_callB (call_sortedD rfl) (by rfl) B.sorted (by decide +kernel) (pa_cons (pv 2) pa_nil))) (blkOk_by (N := N_unify) (sc := defScope s_unify) (by decide +kernel)) (fun _ _ _ _ _ => (pg_name (i := 3) sc_unify.nd rfl (by first | exact Or.inl rfl | exact Or.inr rfl))) (fun _ _ _ _ _ => pts_nil) (fun _ _ _ _ _ => (pv 3)) (fun _ _ _ _ _ => (pc c_resolved hr (by omega) rfl ps0 (pa_cons (pe_dget (hu_of hr) (pv 2) (pv 3) (fun _ _ => rfl)) (pa_cons (pv 2) pa_nil))))))))), ?_⟩
  intro d hd
  generalize z1 : upd H d _ = H1
  obtain ⟨g1, e1⟩ := hA_gr z1 hd
  have e1 : H1 d = some (.dK []) := e1
  refine ⟨_, rfl, _, rfl, _, rfl, v, u, d, F1, F2, F1, F2, [], Fm.lt, rfl, g1.dt hv, g1.dt hu, Tk.new e1, UJ.nil F1 F2, F, .inl .rfl, .inr .rfl, g1.tab _ hT1, g1.tab _ hT2, d1, d2, fun r l' S' H2 g2 T2 U2 ht hf' => ⟨_, rfl, ?_⟩⟩
  rw [List.nil_append] at T2 U2 ht
  have g02 : Gr H H2 := g1.drop g2 fun z hz => .inr (by rw [List.mem_singleton.mp hz]; exact hd)
  cases r with
  | false => exact iteT (q0 H2 g02 fun θ => hf' rfl θ fun p hp => nomatch hp)
  | true =>
    refine iteF ?_
    obtain ⟨kvs, k1, k2, k3⟩ := T2.ex
    have kl : (keysT l').length = l'.length := List.length_map _
    have room := U2.room F
    refine ⟨_, rfl, d, kvs, keysT l', rfl, .inl k1, k2, by omega, fun ys p hperm hsort hp => ?_⟩
    generalize z3 : upd H2 p _ = H3
    obtain ⟨g3, e3⟩ := hA_gr z3 hp
    have yl : ys.length = l'.length := by rw [hperm.length_eq, kl]
    have nd := (hperm.nodup_iff).mpr U2.nd
    refine ⟨p, rfl, ⟨_, SqL.of e3⟩, fun D hD => turns_list (K := K) (a := p) (xs := ys.map V.str) (fun i H' => Gr H3 H' ∧ Tk K H' D ((ys.take i).map fun x => (x, S' x))) ⟨Gx.new hD, Tk.new upd_same⟩ (fun i H' _ ⟨g, _⟩ => SqL.of (g.lst e3 fun m => nomatch m)) ?_ ?_⟩
    · rintro i x H4 hi ⟨g4, T4⟩
      rw [List.getElem?_map] at hi
      obtain ⟨y, ey, rfl⟩ := Option.map_eq_some_iff.mp hi
      have my := List.mem_of_getElem? ey
      have g34 := g3.trans g4
      have T2' := T2.gx g34 (fun m => nomatch m)
      obtain ⟨kv2, a1, a2, a3⟩ := T2'.ex
      rcases tk_val a2 a3 y with ⟨n1, _⟩ | ⟨t, vt, n1, n2, n3⟩
      · exact absurd (hperm.mem_iff.mp my) (look_none.mp n1)
      obtain ⟨es, ht'⟩ := UJ.one U2 n1
      refine ⟨rfl, _, rfl, _, rfl, _, rfl, d, vt, rfl, .inl ⟨kv2, .inr y, .inl a1, rfl, n2.symm⟩, _, rfl, vt, d, t, F1, F2, l', S', rfl, n3, T2', U2, ht', (g02.trans g34).tab _ hT3, dn t l' S' ht' U2, fun u5 H5 g5 hu5 => ?_⟩
      have T5 := T4.gx g5 (fun m => nomatch m)
      obtain ⟨kv5, b1, b2, b3⟩ := T5.ex
      have no : look ((ys.take i).map fun x => (x, S' x)) y = none := look_none.mpr fun m => by
        unfold keysT at m
        rw [List.map_map] at m
        obtain ⟨z, hz, e⟩ := List.mem_map.mp m
        have e : z = y := e
        subst e
        have hil := (List.getElem?_eq_some_iff.mp ey).1
        obtain ⟨j, hj⟩ := List.mem_iff_getElem?.mp hz
        have hj' : j < i := by
          have := (List.getElem?_eq_some_iff.mp hj).1
          rw [List.length_take] at this; omega
        rw [List.getElem?_take, if_pos hj'] at hj
        obtain ⟨j1, j2⟩ := List.getElem?_eq_some_iff.mp hj
        obtain ⟨i1, i2⟩ := List.getElem?_eq_some_iff.mp ey
        have := (List.nodup_iff_pairwise_ne.mp nd)
        exact (List.pairwise_iff_getElem.mp this j i j1 i1 hj') (by rw [j2, i2])
      have T6 := Tk.app (f := S' y) (v := u5) b1 b2 b3 no (by rw [es]; exact hu5)
      have kl5 : kv5.length = ((ys.take i).map fun x => (x, S' x)).length := tk_len b2
      have lt5 : kv5.length ≤ 60 := by rw [kl5, List.length_map, List.length_take]; omega
      refine ⟨kv5, Sum.inr y, rfl, b1, szlt (m := 60) lt5 (by omega), ?_⟩
      have gs : Gx [D] H5 (upd H5 D (.dK (putK kv5 (.inr y) u5))) := Gx.set b1 rfl
      refine ⟨(g4.trans g5).drop gs fun z hz => .inr (by rw [List.mem_singleton.mp hz]; exact hD), ?_⟩
      rw [List.take_succ, ey, List.map_append]
      exact T6
    · rintro H4 ⟨g4, T4⟩
      rw [List.length_map, List.take_length] at T4
      exact q1 D l' S' ys H4 ((g02.trans g3).trans g4) U2 (fun θ => (ht rfl θ).trans ⟨fun h => h.2, fun h => ⟨fun p hp => (nomatch hp), h⟩⟩) hperm T4
abbrev N_Lwalk : List Str := ["_law_formula", "_law_table"]
theorem sc_Lwalk : FnScope N_Lwalk ["_law_formula", "_law_table"] (defScope s_Lwalk) := ⟨rfl, rfl, rfl, by decide +kernel, rfl, by decide +kernel, by decide +kernel⟩
theorem ok_Lwk (B : Bn mg) (D : Df K mg "_law_walk" s_Lwalk ["_law_formula", "_law_table"]) : Cl CX0 P w K mg base 1 "_law_walk" (sp_wk K) := by
  refine D.ok sc_Lwalk (fun vs H Q E h => ?_) (fun f0 cdv A outer s H vs Q E hr h => ?_)
  · obtain ⟨v, d, f, F1, F2, l, S, rfl, _⟩ := h
    rfl
  obtain ⟨v, d, f, F1, F2, l, S, rfl, hv, hT, U, hf, q⟩ := h
  refine ⟨_, (pss_cons (ps_while PassesOwn.never (PW.pt (pw_and (pt_cmpR op_eq (pe_ix ix_tup (pv 0) pe_int (fun _ _ => rfl)) pe_str (nomark _)) (pw_and1 (pt_cmp (pc_din (hu_of hr) (pe_ix ix_tup (pv 0) pe_int (fun _ _ => rfl)) (pv 1))))))
    (pss_one (ps_set (i := 0) sc_Lwalk.nd rfl (by first | exact Or.inl rfl | exact Or.inr rfl) (pe_dget (hu_of hr) (pv 1) (pe_ix ix_tup (pv 0) pe_int (fun _ _ => rfl)) (fun _ _ => rfl)))))
  (pss_one (ps_ret (pv 0)))), ?_⟩
  obtain ⟨kvs, k1, k2, k3⟩ := hT.ex
  refine ⟨fun m σ H' => H' = H ∧ ∃ u g, σ = [some u, some (.ref d)] ∧ FmV K H u g ∧ InF F1 F2 g ∧ g.sb S = f.sb S ∧ (∀ θ, Cmp l θ → g.sb θ = f.sb θ) ∧ ((∀ x, f = .lt x → x ∉ keysT l) → g = f) ∧ m ≤ l.length ∧ ∀ x, g = .lt x → x ∉ keysT (l.take (l.length - m)), ⟨l.length, rfl, v, f, rfl, hv, hf, rfl, (fun _ _ => rfl), fun _ => rfl, Nat.le_refl _, fun x _ h => by rw [Nat.sub_self] at h; cases h⟩, ?_⟩
  rintro m σ H' ⟨rfl, u, g, rfl, hu, hg, heq, hcm, hst, hml, hm⟩
  cases g with
  | lt x =>
    obtain ⟨a, rfl, ha⟩ := fm_lt hu
    refine ⟨_, rfl, a, _, _, _, rfl, rfl, ha, at0, (by rfl : scal (V.str "letter") (V.str "letter") = true), _, rfl, iteT ?_⟩
    rcases tk_val k2 k3 x with ⟨e1, e2⟩ | ⟨t, u', e1, e2, hu'⟩
    · refine ⟨_, rfl, a, _, _, _, rfl, rfl, ha, at1, _, rfl, d, none, rfl, .inl ⟨kvs, .inr x, .inl k1, rfl, e2.symm⟩, _, rfl, iteF ⟨_, rfl, ?_⟩⟩
      exact q (.ref a) (.lt x) hu ⟨hg, heq, fun y hy => by cases hy; exact look_none.mp e1, hst, hcm⟩
    · obtain ⟨h1, h2⟩ := UJ.one U e1
      obtain ⟨m', hm1, hm2, hm3⟩ := UJ.next U e1 (hm x rfl) hml
      have hk : x ∈ keysT l := List.mem_map.mpr ⟨_, look_memU e1, rfl⟩
      refine ⟨_, rfl, a, _, _, _, rfl, rfl, ha, at1, _, rfl, d, some u', rfl, .inl ⟨kvs, .inr x, .inl k1, rfl, e2.symm⟩, _, rfl, iteT ?_⟩
      refine ⟨fun σ' H2 => H2 = H' ∧ σ' = [some u', some (.ref d)], fun σ' H2 ⟨z1, z2⟩ => ⟨m', hm1, z1, u', t, z2, hu', h2, by rw [← heq, ← h1]; rfl, (fun θ hθ => by rw [← hcm θ hθ]; exact (hθ _ (look_memU e1)).symm), fun hno => ?_, hm2, hm3⟩, ?_⟩
      · have := hst hno
        exact absurd hk (hno x this.symm)
      · exact ⟨_, rfl, _, rfl, a, _, _, _, rfl, rfl, ha, at1, d, u', rfl, .inl ⟨kvs, .inr x, .inl k1, rfl, e2.symm⟩, rfl, rfl⟩
  | ng p =>
    obtain ⟨a, x, rfl, ha, hx⟩ := fm_ng hu
    refine ⟨_, rfl, a, _, _, _, rfl, rfl, ha, at0, (by rfl : scal (V.str "not") (V.str "letter") = true), _, rfl, ?_⟩
    rw [show decide (V.str "not" = V.str "letter") = false by decide +kernel]
    exact iteF (iteF ⟨_, rfl, q (.ref a) (.ng p) hu ⟨hg, heq, (fun y hy => nomatch hy), hst, hcm⟩⟩)
  | im p p2 =>
    obtain ⟨a, x, y, rfl, ha, hx, hy⟩ := fm_im hu
    refine ⟨_, rfl, a, _, _, _, rfl, rfl, ha, at0, (by rfl : scal (V.str "if") (V.str "letter") = true), _, rfl, ?_⟩
    rw [show decide (V.str "if" = V.str "letter") = false by decide +kernel]
    exact iteF (iteF ⟨_, rfl, q (.ref a) (.im p p2) hu ⟨hg, heq, (fun y hy => nomatch hy), hst, hcm⟩⟩)
abbrev N_Lhas : List Str := ["_law_name", "_law_formula", "_law_table", "_law_part"]
theorem sc_Lhas : FnScope N_Lhas ["_law_name", "_law_formula", "_law_table"] (defScope s_Lhas) := ⟨rfl, rfl, rfl, by decide +kernel, rfl, by decide +kernel, by decide +kernel⟩
def sp_Lha (K : PySem.W.Frag) (n : Nat) : Sp := fun vs H Q _ => ∃ (x : Str) (v : V) (d : Addr) (f F1 F2 : Fm) (l : Tl) (S : Str → Fm), vs = [.str x, v, .ref d] ∧ FmV K H v f ∧ Tk K H d l ∧ UJ F1 F2 l S ∧ InF F1 F2 f ∧ (f.sb S).depth ≤ n ∧
  ∀ H' : Hp, Gr H H' → Q (.bl (decide (x ∈ (f.sb S).lets))) H'
theorem st_Lha {n : Nat} (B : Bn mg) (D : Df K mg "_law_has" s_Lhas ["_law_name", "_law_formula", "_law_table"]) (c_Lwalk : Cl CX0 P w K mg base 1 "_law_walk" (sp_wk K)) (c_Lhas : Cl CX0 P w K mg base (n + 1) "_law_has" (sp_Lha K n)) : Cl CX0 P w K mg base (n + 2) "_law_has" (sp_Lha K (n + 1)) := by
  refine D.ok sc_Lhas (fun vs H Q E h => ?_) (fun f0 cdv A outer s H vs Q E hr h => ?_)
  · obtain ⟨x, v, d, f, F1, F2, l, S, rfl, _⟩ := h
    rfl
  obtain ⟨x, v, d, f, F1, F2, l, S, rfl, hv, hT, U, hf, hn, q⟩ := h
  refine ⟨_, (pss_cons (ps_set (i := 1) sc_Lhas.nd rfl (by first | exact Or.inl rfl | exact Or.inr rfl) (pc c_Lwalk hr (by omega) rfl ps0 (pa_cons (pv 1) (pa_cons (pv 2) pa_nil))))
  (pss_cons (ps_if (pt_cmpR op_eq (pe_ix ix_tup (pv 1) pe_int (fun _ _ => rfl)) pe_str (nomark _))
    (pss_one (ps_ret (pe_cmpR op_eq (pe_ix ix_tup (pv 1) pe_int (fun _ _ => rfl)) (pv 0) (nomark _))))
    pss_nil)
  (pss_cons (ps_for PassesOwn.never rfl (pi_tup (pe_slice sl_tup (pv 1) (po_some pe_int) po_none)) (pg_name (i := 3) sc_Lhas.nd rfl (by first | exact Or.inl rfl | exact Or.inr rfl))
    (pss_one (ps_if (pt_val (pc c_Lhas hr (by omega) rfl ps0 (pa_cons (pv 0) (pa_cons (pv 3) (pa_cons (pv 2) pa_nil)))))
    (pss_one (ps_ret pe_bl))
    pss_nil)))
  (pss_one (ps_ret pe_bl))))), ?_⟩
  refine ⟨_, rfl, _, rfl, v, d, f, F1, F2, l, S, rfl, hv, hT, U, hf, fun u g hu W => ?_⟩
  cases hl : g.isLt with
  | true =>
    cases g with
    | lt y =>
      obtain ⟨a, rfl, ha⟩ := fm_lt hu
      refine ⟨_, rfl, a, _, _, _, rfl, rfl, ha, at0, (by rfl : scal (V.str "letter") (V.str "letter") = true), _, rfl, iteT ?_⟩
      refine ⟨_, rfl, a, _, _, _, rfl, rfl, ha, at1, _, rfl, (by rfl : scal (V.str y) (V.str x) = true), ?_⟩
      have := q H Gx.refl
      rw [W.lt U] at this
      rw [show decide (V.str y = V.str x) = decide (x ∈ (Fm.lt y).lets) from ?_]
      · exact this
      · by_cases c : y = x
        · subst c; simp [Fm.lets]
        · rw [decide_eq_false (fun z => c (V.str.inj z)), decide_eq_false (show ¬ x ∈ (Fm.lt y).lets from fun z => c (List.mem_singleton.mp z).symm)]
    | ng p => cases hl
    | im p q => cases hl
  | false =>
    obtain ⟨a, xs, rfl, ha, hk⟩ := fm_node hu hl
    have hlen : xs.length = g.kids.length := by rw [hk.len, List.length_map]
    refine ⟨_, rfl, a, _, _, _, rfl, rfl, ha, at0, (by rfl : scal (V.str g.tag) (V.str "letter") = true), _, rfl, ?_⟩
    rw [Fm.tag_ne hl]
    refine iteF ⟨_, rfl, 1, rfl, a, _, rfl, ha, cut_ok _ _, fun c1 hc1 => ?_⟩
    rw [cut_tl]
    generalize z1 : upd H c1 _ = H1
    obtain ⟨g1, e1⟩ := hA_gr z1 hc1
    have key : x ∈ (f.sb S).lets ↔ ∃ k ∈ g.kids, x ∈ (k.sb S).lets := by
      rw [← W.eq, lets_kids (sb_kids hl).2.2, (sb_kids hl).1]
      constructor
      · rintro ⟨k', hk', hx⟩
        obtain ⟨k, hk, rfl⟩ := List.mem_map.mp hk'
        exact ⟨k, hk, hx⟩
      · rintro ⟨k, hk, hx⟩
        exact ⟨_, List.mem_map.mpr ⟨k, hk, rfl⟩, hx⟩
    refine ⟨c1, rfl, ⟨_, SqT.of e1⟩, for_tup (K := K) (a := c1) (xs := xs) (fun i σ H' => ∃ w3, σ = [some (.str x), some (.ref a), some (.ref d), w3] ∧ Gr H1 H' ∧ ∀ k ∈ g.kids.take i, x ∉ (k.sb S).lets) ⟨none, rfl, Gx.refl, fun k h => by rw [List.take_zero] at h; cases h⟩ (fun i σ H' _ ⟨_, _, g, _⟩ => g.sqT (SqT.of e1)) ?_ ?_⟩
    · rintro i z σ H' hi ⟨w3, rfl, g3, hno⟩
      have hik : i < g.kids.length := by rw [← hlen]; exact (List.getElem?_eq_some_iff.mp hi).1
      obtain ⟨x', ex, hx'⟩ := hk.get (i := i) (d := (g.kids[i]).d) (by rw [List.getElem?_map, List.getElem?_eq_getElem hik]; rfl)
      rw [hi] at ex; cases ex
      have hm : g.kids[i] ∈ g.kids := List.getElem_mem hik
      have hmS : (g.kids[i]).sb S ∈ (g.sb S).kids := by rw [(sb_kids hl).1]; exact List.mem_map.mpr ⟨_, hm, rfl⟩
      have hd := Fm.kids_depth hmS
      rw [W.eq] at hd
      have etk : g.kids.take (i + 1) = g.kids.take i ++ [g.kids[i]] := by rw [List.take_succ, List.getElem?_eq_getElem hik]; rfl
      have knw := W.nw.kid hm
      have gH : Gr H H' := g1.trans g3
      rw [etk]
      refine ⟨_, rfl, _, rfl, _, rfl, x, z, d, g.kids[i], F1, F2, l, S, rfl, gH.dt hx', hT.gx gH (fun z => nomatch z), U, knw, by omega, fun H3 g4 => ⟨_, rfl, ?_⟩⟩
      by_cases c : x ∈ ((g.kids[i]).sb S).lets
      · rw [decide_eq_true c]
        have := q H3 (gH.trans g4)
        rw [decide_eq_true (key.mpr ⟨_, hm, c⟩)] at this
        exact iteT this
      · rw [decide_eq_false c]
        refine iteF ⟨_, rfl, g3.trans g4, fun k hk => ?_⟩
        rcases List.mem_append.mp hk with hk | hk
        · exact hno k hk
        · rw [List.mem_singleton.mp hk]; exact c
    · rintro σ H' ⟨w3, rfl, g3, hno⟩
      rw [hlen, List.take_length] at hno
      have := q H' (g1.trans g3)
      rw [decide_eq_false (fun z => by obtain ⟨k, hk, hx⟩ := key.mp z; exact hno k hk hx)] at this
      exact this
theorem ok_Lha (B : Bn mg) (D : Df K mg "_law_has" s_Lhas ["_law_name", "_law_formula", "_law_table"]) (c_Lwalk : Cl CX0 P w K mg base 1 "_law_walk" (sp_wk K)) : ∀ n : Nat, Cl CX0 P w K mg base (n + 1) "_law_has" (sp_Lha K n)
  | 0 => D.none fun vs H Q E ⟨_, _, _, f, _, _, _, S, _, _, _, _, _, h, _⟩ => by have := (f.sb S).depth_pos; omega
  | n + 1 => st_Lha B D c_Lwalk (ok_Lha B D c_Lwalk n)
abbrev N_Lsolved : List Str := ["_law_formula", "_law_table", "_law_part"]
theorem sc_Lsolved : FnScope N_Lsolved ["_law_formula", "_law_table"] (defScope s_Lsolved) := ⟨rfl, rfl, rfl, by decide +kernel, rfl, by decide +kernel, by decide +kernel⟩
def sp_Lso (K : PySem.W.Frag) (n : Nat) : Sp := fun vs H Q _ => ∃ (v : V) (d : Addr) (f F1 F2 : Fm) (l : Tl) (S : Str → Fm), vs = [v, .ref d] ∧ FmV K H v f ∧ Tk K H d l ∧ UJ F1 F2 l S ∧ InF F1 F2 f ∧ (f.sb S).depth ≤ n ∧
  ∀ (u : V) (H' : Hp), Gr H H' → FmV K H' u (f.sb S) → Q u H'
theorem st_Lso {n : Nat} (B : Bn mg) (D : Df K mg "_law_solved" s_Lsolved ["_law_formula", "_law_table"]) (c_Lwalk : Cl CX0 P w K mg base 1 "_law_walk" (sp_wk K)) (c_Lsolved : Cl CX0 P w K mg base (n + 1) "_law_solved" (sp_Lso K n)) : Cl CX0 P w K mg base (n + 2) "_law_solved" (sp_Lso K (n + 1)) := by
  refine D.ok sc_Lsolved (fun vs H Q E h => ?_) (fun f0 cdv A outer s H vs Q E hr h => ?_)
  · obtain ⟨v, d, f, F1, F2, l, S, rfl, _⟩ := h
    rfl
  obtain ⟨v, d, f, F1, F2, l, S, rfl, hv, hT, U, hf, hn, q⟩ := h
  refine ⟨_, (pss_cons (ps_set (i := 0) sc_Lsolved.nd rfl (by first | exact Or.inl rfl | exact Or.inr rfl) (pc c_Lwalk hr (by omega) rfl ps0 (pa_cons (pv 0) (pa_cons (pv 1) pa_nil))))
  (pss_cons (ps_if (pt_cmpR op_eq (pe_ix ix_tup (pv 0) pe_int (fun _ _ => rfl)) pe_str (nomark _))
    (pss_one (ps_ret (pv 0)))
    pss_nil)
  (pss_one (ps_ret (pe_op op_catT (pe_tup (pa_cons (pe_ix ix_tup (pv 0) pe_int (fun _ _ => rfl)) pa_nil)) (pe_callTy call_tuple_of (by rfl) B.tuple (by decide +kernel) (pa_cons (pe_lc (own := [("_law_part", 2)]) rfl sc_Lsolved.nd (pi_tup (pe_slice sl_tup (pv 0) (po_some pe_int) po_none)) (blkOk_by (N := N_Lsolved) (sc := defScope s_Lsolved) (by decide +kernel)) (fun _ _ _ _ _ => (pg_name (i := 2) sc_Lsolved.nd rfl (by first | exact Or.inl rfl | exact Or.inr rfl))) (fun _ _ _ _ _ => pts_nil) (fun _ _ _ _ _ => (pc c_Lsolved hr (by omega) rfl ps0 (pa_cons (pv 2) (pa_cons (pv 1) pa_nil))))) pa_nil))))))), ?_⟩
  refine ⟨_, rfl, _, rfl, v, d, f, F1, F2, l, S, rfl, hv, hT, U, hf, fun u g hu W => ?_⟩
  cases hl : g.isLt with
  | true =>
    cases g with
    | lt y =>
      obtain ⟨a, rfl, ha⟩ := fm_lt hu
      refine ⟨_, rfl, a, _, _, _, rfl, rfl, ha, at0, (by rfl : scal (V.str "letter") (V.str "letter") = true), _, rfl, iteT ⟨_, rfl, ?_⟩⟩
      exact q _ H Gx.refl (by rw [W.lt U]; exact hu)
    | ng p => cases hl
    | im p q => cases hl
  | false =>
    obtain ⟨a, xs, rfl, ha, hk⟩ := fm_node hu hl
    have hlen : xs.length = g.kids.length := by rw [hk.len, List.length_map]
    refine ⟨_, rfl, a, _, _, _, rfl, rfl, ha, at0, (by rfl : scal (V.str g.tag) (V.str "letter") = true), _, rfl, ?_⟩
    rw [Fm.tag_ne hl]
    have hlen2 : xs.length ≤ 2 := by rw [hlen]; exact g.kids_len
    refine iteF ?_
    refine ⟨_, rfl, a, _, _, _, rfl, rfl, ha, at0, (by show 1 ≤ sizeLine; decide), fun p hp => ?_⟩
    generalize z0 : upd H p _ = H0
    obtain ⟨g0, e0⟩ := hA_gr z0 hp
    refine ⟨_, rfl, 1, rfl, a, _, rfl, g0.sqT ha, cut_ok _ _, fun c1 hc1 => ?_⟩
    rw [cut_tl]
    generalize z1 : upd H0 c1 _ = H1
    obtain ⟨g1, e1⟩ := hA_gr z1 hc1
    have g01 := g0.trans g1
    refine ⟨c1, rfl, ⟨_, SqT.of e1⟩, fun D2 hD2 => lc_tup (K := K) (a := c1) (xs := xs) (fun i H' => Gr H1 H' ∧ ∃ acc, H' D2 = some (.lst acc) ∧ acc.length = i ∧ DtAll K H' acc ((g.kids.take i).map fun k => (k.sb S).d)) ⟨Gx.new hD2, [], upd_same, rfl, .nil⟩ (fun i H' _ ⟨g, _⟩ => g.sqT (SqT.of e1)) ?_ ?_⟩
    · rintro i z H' hi ⟨g3, acc, ea, el, hy⟩
      have hik : i < g.kids.length := by rw [← hlen]; exact (List.getElem?_eq_some_iff.mp hi).1
      obtain ⟨x', ex, hx'⟩ := hk.get (i := i) (d := (g.kids[i]).d) (by rw [List.getElem?_map, List.getElem?_eq_getElem hik]; rfl)
      rw [hi] at ex; cases ex
      have hm : g.kids[i] ∈ g.kids := List.getElem_mem hik
      have hmS : (g.kids[i]).sb S ∈ (g.sb S).kids := by rw [(sb_kids hl).1]; exact List.mem_map.mpr ⟨_, hm, rfl⟩
      have hd := Fm.kids_depth hmS
      rw [W.eq] at hd
      have etk : g.kids.take (i + 1) = g.kids.take i ++ [g.kids[i]] := by rw [List.take_succ, List.getElem?_eq_getElem hik]; rfl
      have knw := W.nw.kid hm
      have gH : Gr H H' := g01.trans g3
      rw [etk, List.map_append]
      refine ⟨rfl, _, rfl, _, rfl, z, d, g.kids[i], F1, F2, l, S, rfl, gH.dt hx', hT.gx gH (fun z => nomatch z), U, knw, by omega, fun u H3 g4 hu => ?_⟩
      have ea3 := g4.lst ea (fun m => nomatch m)
      have gs : Gx [D2] H3 (upd H3 D2 (.lst (acc ++ [u]))) := Gx.set ea3 rfl
      exact ⟨acc, ea3, szlt (m := 2) (by omega) (by omega), (g3.trans g4).drop gs (fun z hz => .inr (by rw [List.mem_singleton.mp hz]; exact hD2)), _, upd_same, by rw [List.length_append, el]; rfl, (gs.dts (g4.dts hy)).app (.cons (gs.dt hu) .nil)⟩
    · rintro H' ⟨g3, acc, ea, el, hy⟩
      rw [hlen, List.take_length] at hy
      refine ⟨D2, _, rfl, .inl ⟨SqL.of ea, fun l' hl2 => ?_⟩⟩
      have gl : Gr H' (upd H' l' (.tup acc)) := Gx.new hl2
      have gp : Gr H0 H' := g1.trans g3
      have hx0 : xs ≠ [] := fun e => g.kids_ne hl (List.length_eq_zero_iff.mp (by rw [← hlen, e]; rfl))
      refine ⟨p, l', _, _, rfl, rfl, SqT.of (gl.tup _ _ (gp.tup _ _ e0)), SqT.of upd_same, List.cons_ne_nil _ _, szle (m := 3) (by rw [List.length_singleton]; omega) (by omega), fun e9 => ?_, fun _ r hr2 => ?_⟩
      · rw [e9] at el; exact absurd (List.length_eq_zero_iff.mp el.symm) hx0
      · have gr2 : Gr (upd H' l' (.tup acc)) (upd (upd H' l' (.tup acc)) r (.tup ([.str g.tag] ++ acc))) := Gx.new hr2
        refine q _ _ (((g0.trans gp).trans gl).trans gr2) ?_
        rw [← W.eq]
        show Dt K _ _ (g.sb S).d
        rw [Fm.d_node (sb_kids hl).2.2, (sb_kids hl).1, (sb_kids hl).2.1, List.map_map]
        exact .tup (SqT.of upd_same) (.cons (.str _) (gr2.dts (gl.dts hy)))
theorem ok_Lso (B : Bn mg) (D : Df K mg "_law_solved" s_Lsolved ["_law_formula", "_law_table"]) (c_Lwalk : Cl CX0 P w K mg base 1 "_law_walk" (sp_wk K)) : ∀ n : Nat, Cl CX0 P w K mg base (n + 1) "_law_solved" (sp_Lso K n)
  | 0 => D.none fun vs H Q E ⟨_, _, f, _, _, _, S, _, _, _, _, _, h, _⟩ => by have := (f.sb S).depth_pos; omega
  | n + 1 => st_Lso B D c_Lwalk (ok_Lso B D c_Lwalk n)
theorem ite_t' {c : Bool} {a b : Prop} (hc : c = true) (h : a) : (if c = true then a else b) := by rw [hc]; exact h
theorem ite_f' {c : Bool} {a b : Prop} (hc : c = false) (h : b) : (if c = true then a else b) := by rw [hc]; exact h
def pfd (p : Fm × Fm) : PyData := .tuple [p.1.d, p.2.d]
theorem pfd_dt {K : PySem.W.Frag} {H : Hp} {v : V} {p : Fm × Fm} (h : Dt K H v (pfd p)) : ∃ a x y, v = .ref a ∧ SqT K H a [x, y] ∧ FmV K H x p.1 ∧ FmV K H y p.2 := by
  obtain ⟨a, xs, rfl, h1, h2⟩ := Dt.tupI (show Dt K H v (.tuple [p.1.d, p.2.d]) from h)
  cases h2 with
  | cons x1 h2 =>
  cases h2 with
  | cons x2 h2 =>
  cases h2
  exact ⟨a, _, _, rfl, h1, x1, x2⟩
def fsz (S : Str → Fm) (ws : List (Fm × Fm)) : Nat := (ws.map fun p => (p.1.sb S).size).sum
theorem fsz_app (S : Str → Fm) (ws vs : List (Fm × Fm)) : fsz S (ws ++ vs) = fsz S ws + fsz S vs := by unfold fsz; rw [List.map_append, List.sum_append]
theorem fsz_len (S : Str → Fm) : ∀ ws : List (Fm × Fm), ws.length ≤ fsz S ws
  | [] => Nat.le_refl _
  | p :: ws => by
    have := fsz_len S ws
    have := (p.1.sb S).size_pos
    show ws.length + 1 ≤ (p.1.sb S).size + fsz S ws
    omega
theorem kid_sizes {S : Str → Fm} {f : Fm} (h : f.isLt = false) : (f.sb S).size = 1 + (f.kids.map fun k => (k.sb S).size).sum := by
  cases f with
  | lt _ => cases h
  | ng p => show 1 + (p.sb S).size = 1 + ((p.sb S).size + 0); omega
  | im p q => show 1 + ((p.sb S).size + (q.sb S).size) = 1 + ((p.sb S).size + ((q.sb S).size + 0)); omega
theorem fsz_zip {S : Str → Fm} : ∀ {xs ys : List Fm}, xs.length = ys.length → fsz S (xs.zip ys) = (xs.map fun k => (k.sb S).size).sum
  | [], [], _ => rfl
  | x :: xs, y :: ys, h => by
    show (x.sb S).size + fsz S (xs.zip ys) = (x.sb S).size + _
    rw [fsz_zip (Nat.succ.inj h)]
    rfl
theorem zip_solves {θ : Str → Fm} : ∀ {xs ys : List Fm}, xs.length = ys.length → ((∀ p ∈ xs.zip ys, p.1.sb θ = p.2.sb θ) ↔ xs.map (·.sb θ) = ys.map (·.sb θ))
  | [], [], _ => ⟨fun _ => rfl, fun _ p h => nomatch h⟩
  | x :: xs, y :: ys, h => by
    have ih := zip_solves (θ := θ) (xs := xs) (ys := ys) (Nat.succ.inj h)
    constructor
    · intro z
      show x.sb θ :: xs.map (·.sb θ) = y.sb θ :: ys.map (·.sb θ)
      rw [z (x, y) List.mem_cons_self, ih.mp fun p hp => z p (List.mem_cons_of_mem _ hp)]
    · intro z p hp
      have z : x.sb θ :: xs.map (·.sb θ) = y.sb θ :: ys.map (·.sb θ) := z
      rcases List.mem_cons.mp hp with rfl | hp
      · exact (List.cons.inj z).1
      · exact ih.mpr (List.cons.inj z).2 p hp
/-- where the law's loop stands -/
structure LbI (K : PySem.W.Frag) (F1 F2 : Fm) (d wl : Addr) (H1 : Hp) (j : Nat) (H' : Hp) (l : Tl) (S : Str → Fm) (ws : List (Fm × Fm)) (xs : List V) : Prop where
  hw : H' wl = some (.lst xs)
  dx : DtAll K H' xs (ws.map pfd)
  tk : Tk K H' d l
  uj : UJ F1 F2 l S
  inf : ∀ p ∈ ws, InF F1 F2 p.1 ∧ InF F1 F2 p.2
  sol : ∀ θ, F1.sb θ = F2.sb θ ↔ Cmp l θ ∧ ∀ p ∈ ws, p.1.sb θ = p.2.sb θ
  siz : ws ≠ [] → ∀ l' S', UJ F1 F2 (l ++ l') S' → j + fsz S' ws ≤ (F1.sb S').size
  gx : Gx [d, wl] H1 H'
abbrev N_Lbind : List Str := ["_law_one", "_law_other", "_law_table", "_law_waiting", "_law_turn", "_law_pair", "_law_p", "_law_q", "_law_k"]
theorem sc_Lbind : FnScope N_Lbind ["_law_one", "_law_other", "_law_table"] (defScope s_Lbind) := ⟨rfl, rfl, rfl, by decide +kernel, rfl, by decide +kernel, by decide +kernel⟩
def sp_Lbd (K : PySem.W.Frag) (n : Nat) : Sp := fun vs H Q _ => ∃ (v u : V) (d : Addr) (F1 F2 : Fm), vs = [v, u, .ref d] ∧ FmV K H v F1 ∧ FmV K H u F2 ∧ H d = some (.dK []) ∧ Fit F1 F2 ∧ (∀ f l S, InF F1 F2 f → UJ F1 F2 l S → (f.sb S).depth ≤ n) ∧ (∀ f l S, InF F1 F2 f → UJ F1 F2 l S → (f.sb S).size + 1 ≤ 3900) ∧
  ∀ (r : Bool) (l : Tl) (S : Str → Fm) (H' : Hp), Gx [d] H H' → Tk K H' d l → UJ F1 F2 l S → (r = true → ∀ θ, Cmp l θ ↔ F1.sb θ = F2.sb θ) → (r = false → ∀ θ, F1.sb θ ≠ F2.sb θ) → Q (.bl r) H'
theorem ok_Lbd {n : Nat} (B : Bn mg) (D : Df K mg "_law_bind" s_Lbind ["_law_one", "_law_other", "_law_table"]) (c_Lwalk : Cl CX0 P w K mg base 1 "_law_walk" (sp_wk K)) (c_Lhas : Cl CX0 P w K mg base (n + 1) "_law_has" (sp_Lha K n)) : Cl CX0 P w K mg base (n + 2) "_law_bind" (sp_Lbd K n) := by
  refine D.ok sc_Lbind (fun vs H Q E h => ?_) (fun f0 cdv A outer s H vs Q E hr h => ?_)
  · obtain ⟨v, u, d, F1, F2, rfl, _⟩ := h
    rfl
  obtain ⟨v, u, d, F1, F2, rfl, hv, hu, hd, F, dn, zn, q⟩ := h
  refine ⟨_, (pss_cons (ps_set (i := 3) sc_Lbind.nd rfl (by first | exact Or.inl rfl | exact Or.inr rfl) (pe_lst (pa_cons (pe_tup (pa_cons (pv 0) (pa_cons (pv 1) pa_nil))) pa_nil)))
  (pss_cons (ps_for PassesOwn.never rfl (pi_range1 (by rfl) B.range (pa_cons pe_int pa_nil)) (pg_name (i := 4) sc_Lbind.nd rfl (by first | exact Or.inl rfl | exact Or.inr rfl))
    (pss_one (ps_if (pt_cmpR op_gt (pe_callB call_len_seq (by rfl) B.len PySem.boot_len (pa_cons (pv 3) pa_nil)) pe_int (nomark _))
    (pss_cons (ps_set (i := 5) sc_Lbind.nd rfl (by first | exact Or.inl rfl | exact Or.inr rfl) (pe_bm0 PySem.F.plainAttrs_list PySem.F.slot_list_pop PySem.F.type_list_pop mt_pop (pv 3)))
  (pss_cons (ps_set (i := 6) sc_Lbind.nd rfl (by first | exact Or.inl rfl | exact Or.inr rfl) (pc c_Lwalk hr (by omega) rfl ps0 (pa_cons (pe_ix ix_tup (pv 5) pe_int (fun _ _ => rfl)) (pa_cons (pv 2) pa_nil))))
  (pss_cons (ps_set (i := 7) sc_Lbind.nd rfl (by first | exact Or.inl rfl | exact Or.inr rfl) (pc c_Lwalk hr (by omega) rfl ps0 (pa_cons (pe_ix ix_tup (pv 5) pe_int (fun _ _ => rfl)) (pa_cons (pv 2) pa_nil))))
  (C8.pss_cut (ps_if (PW.pt (pw_and (pt_cmpR op_ne (pe_ix ix_tup (pv 6) pe_int (fun _ _ => rfl)) pe_str (nomark _)) (pw_and1 (pt_cmpR op_eq (pe_ix ix_tup (pv 7) pe_int (fun _ _ => rfl)) pe_str (nomark _)))))
    (pss_one (ps_par (i := 6) (j := 7) rfl sc_Lbind.nd rfl rfl (by decide) rfl rfl (pa_cons (pv 7) (pa_cons (pv 6) pa_nil)) rfl))
    pss_nil)
  (pss_one (ps_if (pt_cmpR (op_eqD hr.units) (pv 6) (pv 7) (nomark _))
    (pss_one (ps_set (i := 3) sc_Lbind.nd rfl (by first | exact Or.inl rfl | exact Or.inr rfl) (pv 3)))
    (pss_one (ps_if (pt_cmpR op_eq (pe_ix ix_tup (pv 6) pe_int (fun _ _ => rfl)) pe_str (nomark _))
    (pss_cons (ps_if (pt_val (pc c_Lhas hr (by omega) rfl ps0 (pa_cons (pe_ix ix_tup (pv 6) pe_int (fun _ _ => rfl)) (pa_cons (pv 7) (pa_cons (pv 2) pa_nil)))))
    (pss_one (ps_ret pe_bl))
    pss_nil)
  (pss_one (ps_dput (hu_of hr) (pv 2) (pe_ix ix_tup (pv 6) pe_int (fun _ _ => rfl)) (pv 7) rfl)))
    (pss_one (ps_if (pt_cmpR op_ne (pe_ix ix_tup (pv 6) pe_int (fun _ _ => rfl)) (pe_ix ix_tup (pv 7) pe_int (fun _ _ => rfl)) (nomark _))
    (pss_one (ps_ret pe_bl))
    (pss_one (ps_for PassesOwn.never rfl (pi_range2 (by rfl) B.range (pa_cons pe_int (pa_cons (pe_callB call_len_seq (by rfl) B.len PySem.boot_len (pa_cons (pv 6) pa_nil)) pa_nil))) (pg_name (i := 8) sc_Lbind.nd rfl (by first | exact Or.inl rfl | exact Or.inr rfl))
    (pss_one (ps_expr (pe_bm PySem.F.plainAttrs_list PySem.F.slot_list_append PySem.F.type_list_append mt_append (pv 3) (pa_cons (pe_tup (pa_cons (pe_ix ix_tup (pv 6) (pv 8) (fun _ _ => rfl)) (pa_cons (pe_ix ix_tup (pv 7) (pv 8) (fun _ _ => rfl)) pa_nil))) pa_nil))))))))))))))))
    pss_nil)))
  (pss_one (ps_ret (pe_cmpR op_eq (pe_callB call_len_seq (by rfl) B.len PySem.boot_len (pa_cons (pv 3) pa_nil)) pe_int (nomark _)))))), ?_⟩
  refine ⟨_, rfl, _, rfl, (by show 2 ≤ sizeLine; decide), fun p0 hp0 => ?_⟩
  generalize z0 : upd H p0 _ = H0
  obtain ⟨g0, e0⟩ := hA_gr z0 hp0
  refine ⟨(by show 1 ≤ sizeLine; decide), fun wl hwl => ?_⟩
  generalize z1 : upd H0 wl _ = H1
  obtain ⟨g1, e1⟩ := hA_gr z1 hwl
  have g01 := g0.trans g1
  have hd1 : H1 d = some (.dK []) := gr_some g01 hd fun ps e => nomatch e
  have ndw : wl ≠ d := fun e => by rw [e, hd1] at e1; cases e1
  have hdw : H wl = none := g0.dom _ hwl
  refine ⟨_, rfl, by decide, by decide, for_range (lo := 0) (n := 4000) (fun j σ H' => ∃ w4 w5 w6 w7 w8 l S ws xs, σ = [some v, some u, some (.ref d), some (.ref wl), w4, w5, w6, w7, w8] ∧ LbI K F1 F2 d wl H1 j H' l S ws xs) ⟨none, none, none, none, none, [], Fm.lt, [(F1, F2)], _, rfl, e1, .cons (.tup (g1.sqT (SqT.of e0)) (.cons (g01.dt hv) (.cons (g01.dt hu) .nil))) .nil, Tk.new hd1, UJ.nil F1 F2, (fun p hp => by rw [List.mem_singleton.mp hp]; exact ⟨.inl .rfl, .inr .rfl⟩), (fun θ => ⟨fun h => ⟨fun p hp => (nomatch hp), fun p hp => by rw [List.mem_singleton.mp hp]; exact h⟩, fun h => h.2 _ (List.mem_singleton_self _)⟩), (fun _ l' S' _ => by show 0 + ((F1.sb S').size + 0) ≤ _; omega), Gx.refl⟩ ?_ ?_⟩
  rotate_left
  · rintro σ H2 ⟨w4, w5, w6, w7, w8, l, S, ws, xs, rfl, I⟩
    have xl : xs.length = ws.length := by rw [I.dx.len, List.length_map]
    have e : ws = [] := Classical.byContradiction fun c => by
      have h1 := I.siz c [] S (by rw [List.append_nil]; exact I.uj)
      have h2 := zn F1 l S (.inl .rfl) I.uj
      omega
    subst e
    refine ⟨_, rfl, wl, _, rfl, .inl (SqL.of I.hw), rfl, ?_⟩
    have x0 : xs.length = 0 := xl
    rw [decide_eq_true (show V.int (xs.length : Int) = V.int 0 by rw [x0]; rfl)]
    refine q true l S H2 ?_ I.tk I.uj (fun _ θ => ?_) fun e => nomatch e
    · exact (Gx.wk g01).drop I.gx fun z hz => by
        rcases List.mem_cons.mp hz with rfl | hz
        · exact .inl (List.mem_singleton_self _)
        · rw [List.mem_singleton.mp hz]; exact .inr hdw
    · rw [I.sol θ]
      exact ⟨fun h => ⟨h, fun p hp => nomatch hp⟩, fun h => h.1⟩
  rintro j σ H2 hj ⟨w4, w5, w6, w7, w8, l, S, ws, xs, rfl, I⟩
  have xl : xs.length = ws.length := by rw [I.dx.len, List.length_map]
  refine ⟨_, rfl, wl, _, rfl, .inl (SqL.of I.hw), _, _, rfl, rfl, _, rfl, ?_⟩
  by_cases hw0 : ws = []
  · rw [decide_eq_false (show ¬ (0 : Int) < (xs.length : Int) by rw [xl, hw0]; exact Int.lt_irrefl 0)]
    exact iteF ⟨_, _, _, _, _, l, S, ws, xs, rfl, I.hw, I.dx, I.tk, I.uj, I.inf, I.sol, (fun c => absurd hw0 c), I.gx⟩
  have wpos : 0 < ws.length := List.length_pos_iff.mpr hw0
  rw [decide_eq_true (show (0 : Int) < (xs.length : Int) by omega)]
  refine iteT ?_
  obtain ⟨wi, ⟨p, q0⟩, ew⟩ : ∃ wi x, ws = wi ++ [x] := ⟨ws.dropLast, ws.getLast hw0, (List.dropLast_concat_getLast hw0).symm⟩
  obtain ⟨xi, vx, ex, dxi, dvx⟩ : ∃ xi vx, xs = xi ++ [vx] ∧ DtAll K H2 xi (wi.map pfd) ∧ Dt K H2 vx (pfd (p, q0)) := by
    have dx := I.dx
    rw [ew, List.map_append] at dx
    exact dtall_snoc dx
  subst ew
  subst ex
  obtain ⟨pa, x1, x2, rfl, hpa, hx1, hx2⟩ := pfd_dt dvx
  have xz : (xi ++ [V.ref pa]).length = xi.length + 1 := by rw [List.length_append, List.length_singleton]
  refine ⟨_, rfl, .inl ⟨rfl, _, .inl (.inl I.hw)⟩, wl, _, .ref pa, rfl, rfl, I.hw, (by rw [xz, Nat.add_sub_cancel, List.getElem?_append_right (Nat.le_refl _), Nat.sub_self]; rfl), ?_⟩
  rw [List.dropLast_concat]
  have gs : Gx [wl] H2 (upd H2 wl (.lst xi)) := Gx.set I.hw rfl
  have e3 : upd H2 wl (.lst xi) wl = some (.lst xi) := upd_same
  generalize upd H2 wl (.lst xi) = H3 at gs e3 ⊢
  have T3 : Tk K H3 d l := I.tk.gx gs (by simp [ndw.symm])
  have U := I.uj
  have dxi3 := gs.dts dxi
  have gx3 : Gx [d, wl] H1 H3 := I.gx.trans (gs.mono (by simp))
  obtain ⟨ip, iq⟩ := I.inf (p, q0) (List.mem_append_right _ (List.mem_singleton_self _))
  have ini : ∀ x ∈ wi, InF F1 F2 x.1 ∧ InF F1 F2 x.2 := fun x hx => I.inf x (List.mem_append_left _ hx)
  have xil : xi.length = wi.length := by rw [dxi.len, List.length_map]
  have few : wi.length ≤ 4000 := by
    have h1 := I.siz hw0 [] S (by rw [List.append_nil]; exact I.uj)
    have h2 := zn F1 l S (.inl .rfl) I.uj
    have h3 := fsz_len S (wi ++ [(p, q0)])
    rw [List.length_append] at h3
    omega
  have sizW : ∀ l' S', UJ F1 F2 (l ++ l') S' → j + (fsz S' wi + (p.sb S').size) ≤ (F1.sb S').size := fun l' S' U' => by
    have := I.siz hw0 l' S' U'
    rw [fsz_app] at this
    exact this
  have toH : ∀ {H' : Hp}, Gx [d, wl] H1 H' → Gx [d] H H' := fun g => (Gx.wk g01).drop g fun z hz => by
    rcases List.mem_cons.mp hz with rfl | hz
    · exact .inl (List.mem_singleton_self _)
    · rw [List.mem_singleton.mp hz]; exact .inr hdw
  refine ⟨_, rfl, pa, _, _, _, rfl, rfl, gs.sqT hpa, at0, _, rfl, x1, d, p, F1, F2, l, S, rfl, gs.dt hx1, T3, U, ip, fun v6 p1 hv6 W1 => ?_⟩
  refine ⟨_, rfl, pa, _, _, _, rfl, rfl, gs.sqT hpa, at1, _, rfl, x2, d, q0, F1, F2, l, S, rfl, gs.dt hx2, T3, U, iq, fun v7 q1 hv7 W2 => ?_⟩
  refine ⟨fun σ' H' => H' = H3 ∧ ∃ (v6' v7' : V) (p2 q2 : Fm), σ' = [some v, some u, some (.ref d), some (.ref wl), some (.int (0 + (j : Int))), some (.ref pa), some v6', some v7', w8] ∧ FmV K H3 v6' p2 ∧ FmV K H3 v7' q2 ∧ InF F1 F2 p2 ∧ InF F1 F2 q2 ∧ (∀ y, p2 = .lt y → y ∉ keysT l) ∧ (∀ y, q2 = .lt y → y ∉ keysT l) ∧ (∀ θ, Cmp l θ → (p2.sb θ = q2.sb θ ↔ p.sb θ = q0.sb θ)) ∧ (p2.isLt = false → p2 = p1 ∧ q2.isLt = false), ?_, ?_⟩
  · obtain ⟨a6, r6, rfl, ha6⟩ := fm_tup hv6
    obtain ⟨a7, r7, rfl, ha7⟩ := fm_tup hv7
    have same : ∀ θ, Cmp l θ → (p1.sb θ = q1.sb θ ↔ p.sb θ = q0.sb θ) := fun θ h => by rw [W1.cm θ h, W2.cm θ h]
    refine ⟨_, rfl, a6, _, _, _, rfl, rfl, ha6, at0, (by rfl : scal (V.str p1.tag) (V.str "letter") = true), _, rfl, ?_⟩
    cases hl1 : p1.isLt with
    | true =>
      obtain ⟨x, rfl⟩ := Fm.tag_lt hl1
      refine ite_f' (show (!decide (V.str "letter" = V.str "letter")) = false by decide +kernel) ?_
      exact iteF ⟨rfl, _, _, _, q1, rfl, hv6, hv7, W1.nw, W2.nw, W1.no, W2.no, same, fun h => nomatch h⟩
    | false =>
      rw [Fm.tag_ne hl1]
      refine iteT ⟨_, rfl, a7, _, _, _, rfl, rfl, ha7, at0, (by rfl : scal (V.str q1.tag) (V.str "letter") = true), _, rfl, ?_⟩
      cases hl2 : q1.isLt with
      | true =>
        obtain ⟨y, rfl⟩ := Fm.tag_lt hl2
        refine ite_t' (show decide (V.str "letter" = V.str "letter") = true by decide +kernel) ⟨_, rfl, _, rfl, _, _, rfl, rfl, _, _, _, p1, rfl, hv7, hv6, W2.nw, W1.nw, W2.no, W1.no, fun θ h => ?_, fun h => nomatch h⟩
        rw [← same θ h]
        exact eq_comm
      | false =>
        rw [Fm.tag_ne hl2]
        exact iteF ⟨rfl, _, _, p1, q1, rfl, hv6, hv7, W1.nw, W2.nw, W1.no, W2.no, same, fun _ => ⟨rfl, hl2⟩⟩
  rintro σ' H' ⟨rfl, v6', v7', p2, q2, rfl, h6, h7, i6, i7, no6, no7, same, node⟩
  have ok6 : p2.Ok := i6.ok F
  have ok7 : q2.Ok := i7.ok F
  have wnil : wi = [] ∨ wi ≠ [] := Classical.em _
  have small : ∀ l' S', UJ F1 F2 (l ++ l') S' → j + 1 + fsz S' wi ≤ (F1.sb S').size := fun l' S' U' => by
    have := sizW l' S' U'
    have := (p.sb S').size_pos
    omega
  have solW : ∀ θ, F1.sb θ = F2.sb θ ↔ (Cmp l θ ∧ ∀ x ∈ wi, x.1.sb θ = x.2.sb θ) ∧ p2.sb θ = q2.sb θ := fun θ => by
    rw [I.sol θ]
    constructor
    · rintro ⟨h, ha⟩
      exact ⟨⟨h, fun x hx => ha x (List.mem_append_left _ hx)⟩, (same θ h).mpr (ha (p, q0) (List.mem_append_right _ (List.mem_singleton_self _)))⟩
    · rintro ⟨⟨h, ha⟩, hp⟩
      refine ⟨h, fun x hx => ?_⟩
      rcases List.mem_append.mp hx with hx | hx
      · exact ha x hx
      · rw [List.mem_singleton.mp hx]; exact (same θ h).mp hp
  refine ⟨_, rfl, _, rfl, p2.d, q2.d, Dt.dp _ _ h6, Dt.dp _ _ h7, ok6.sh, ok7.sh, _, rfl, ?_⟩
  rw [Fm.d_eqv]
  by_cases ceq : p2 = q2
  · rw [decide_eq_true ceq]
    refine iteT ⟨_, rfl, _, _, _, _, _, l, S, wi, xi, rfl, e3, dxi3, T3, U, ini, fun θ => ?_, fun _ => small, gx3⟩
    rw [solW θ, ceq]
    exact ⟨fun h => h.1, fun h => ⟨h, rfl⟩⟩
  rw [decide_eq_false ceq]
  refine iteF ?_
  obtain ⟨a6, r6, rfl, ha6⟩ := fm_tup h6
  refine ⟨_, rfl, a6, _, _, _, rfl, rfl, ha6, at0, (by rfl : scal (V.str p2.tag) (V.str "letter") = true), _, rfl, ?_⟩
  cases hl : p2.isLt with
  | true =>
    obtain ⟨x, rfl⟩ := Fm.tag_lt hl
    have hxk := no6 x rfl
    obtain ⟨a, e6, ha⟩ := fm_lt h6
    cases e6
    refine ite_t' (show decide (V.str "letter" = V.str "letter") = true by decide +kernel) ?_
    refine ⟨_, rfl, a6, _, _, _, rfl, rfl, ha, at1, _, rfl, _, rfl, x, v7', d, q2, F1, F2, l, S, rfl, h7, T3, U, i7, dn q2 l S i7 U, fun H4 k1 => ⟨_, rfl, ?_⟩⟩
    by_cases hoc : x ∈ (q2.sb S).lets
    · rw [decide_eq_true hoc]
      refine iteT (q false l S H4 (toH (gx3.trans (Gx.wk k1))) (T3.gx k1 fun m => nomatch m) U (fun e => nomatch e) fun _ θ e => ?_)
      have := (solW θ).mp e
      exact U.occ hoc no7 (fun z => ceq z.symm) this.1.1 this.2
    rw [decide_eq_false hoc]
    have T1' := T3.gx k1 (fun m => nomatch m)
    obtain ⟨kvs, b1, b2, b3⟩ := T1'.ex
    have hno : look l x = none := look_none.mpr hxk
    have hrm := U.room F
    have T2' := Tk.app (f := q2) (v := v7') b1 b2 b3 hno (k1.dt h7)
    have kl : kvs.length = l.length := tk_len b2
    refine iteF ⟨_, rfl, _, rfl, _, rfl, a6, _, _, _, rfl, rfl, k1.sqT ha, at1, d, _, rfl, DPut.k (k := Sum.inr x) b1 (szlt (m := 1000) (by omega) (by omega)), ?_⟩
    have g4 : Gx [d] H4 (upd H4 d (.dK (putK kvs (.inr x) v7'))) := Gx.set b1 rfl
    have k14 := (Gx.wk k1 : Gx [d] H' H4).trans g4
    have e4 := g4.lst (k1.lst e3 fun m => nomatch m) (by simp [ndw])
    refine ⟨_, _, _, _, _, l ++ [(x, q2)], stpU S x q2, wi, xi, rfl, e4, k14.dts dxi3, T2', U.add hxk (i6.lets x (List.mem_singleton_self _)) i7 no7 (fun z => ceq z.symm) hoc, ini, fun θ => ?_, fun _ l' S' U' => small ([(x, q2)] ++ l') S' (by rw [← List.append_assoc]; exact U'), gx3.trans (k14.mono (by simp))⟩
    rw [solW θ, cmp_app]
    exact ⟨fun h => ⟨⟨h.1.1, h.2⟩, h.1.2⟩, fun h => ⟨⟨h.1.1, h.2⟩, h.1.2⟩⟩
  | false =>
    obtain ⟨rfl, hl2⟩ := node hl
    rw [Fm.tag_ne hl]
    refine iteF ?_
    obtain ⟨a, ks, ea, ha, hk⟩ := fm_node h6 hl
    cases ea
    obtain ⟨b, zs, rfl, hb, hk2⟩ := fm_node h7 hl2
    have kl1 : ks.length = p2.kids.length := by rw [hk.len, List.length_map]
    have kl2 : zs.length = q2.kids.length := by rw [hk2.len, List.length_map]
    refine ⟨_, rfl, a6, _, _, _, rfl, rfl, ha, at0, _, rfl, b, _, _, _, rfl, rfl, hb, at0, (by rfl : scal (V.str p2.tag) (V.str q2.tag) = true), _, rfl, ?_⟩
    by_cases etag : p2.tag = q2.tag
    case neg =>
      rw [decide_eq_false fun e => etag (V.str.inj e)]
      refine iteT (q false l S H' (toH gx3) T3 U (fun e => nomatch e) fun _ θ e => ?_)
      have e := ((solW θ).mp e).2
      have := congrArg Fm.tag e
      rw [(sb_kids hl).2.1, (sb_kids hl2).2.1] at this
      exact etag this
    have ekl : p2.kids.length = q2.kids.length := kids_same hl hl2 etag
    have k2 : p2.kids.length ≤ 2 := p2.kids_len
    rw [etag, decide_eq_true rfl]
    refine iteF ⟨_, rfl, a6, _, rfl, .inr ha, 1, ((V.str q2.tag :: ks).length : Int), rfl, by rw [List.length_cons]; omega, for_range (lo := 1) (n := (((V.str q2.tag :: ks).length : Int) - 1).toNat) (fun i σ H5 => ∃ w8, σ = [some v, some u, some (.ref d), some (.ref wl), some (.int (0 + (j : Int))), some (.ref pa), some (.ref a6), some (.ref b), w8] ∧ Gx [wl] H' H5 ∧ ∃ ys, H5 wl = some (.lst (xi ++ ys)) ∧ DtAll K H5 ys (((p2.kids.zip q2.kids).take i).map pfd)) ⟨_, rfl, Gx.refl, [], by rw [List.append_nil]; exact e3, .nil⟩ ?_ ?_⟩
    · rintro i σ H5 hi ⟨w8, rfl, g5, ys, e5, dy⟩
      have hik : i < ks.length := by rw [List.length_cons] at hi; omega
      have h1 : i < p2.kids.length := by omega
      have h2 : i < q2.kids.length := by omega
      obtain ⟨x, ex, hx⟩ := hk.get (i := i) (d := (p2.kids[i]).d) (by rw [List.getElem?_map, List.getElem?_eq_getElem h1]; rfl)
      obtain ⟨z, ez, hz⟩ := hk2.get (i := i) (d := (q2.kids[i]).d) (by rw [List.getElem?_map, List.getElem?_eq_getElem h2]; rfl)
      have eI : (1 + (i : Int)) = ((i + 1 : Nat) : Int) := by omega
      have ezip : (p2.kids.zip q2.kids)[i]? = some (p2.kids[i], q2.kids[i]) := by
        rw [List.getElem?_zip_eq_some]
        exact ⟨List.getElem?_eq_getElem h1, List.getElem?_eq_getElem h2⟩
      have yl : ys.length ≤ 2 := by rw [dy.len, List.length_map, List.length_take, List.length_zip]; omega
      refine ⟨_, rfl, .inl ⟨rfl, _, .inl (.inl e5)⟩, _, rfl, _, rfl, a6, _, _, _, rfl, rfl, g5.sqT ha, (by rw [eI]; exact atI_nat (j := i + 1) ex), _, rfl, _, rfl, b, _, _, _, rfl, rfl, g5.sqT hb, (by rw [eI]; exact atI_nat (j := i + 1) ez), (by show 2 ≤ sizeLine; decide), fun t1 ht1 => ?_⟩
      generalize zt : upd H5 t1 _ = H6
      obtain ⟨g6, e6⟩ := hA_gr zt ht1
      have e56 := g6.lst e5 (fun m => nomatch m)
      have g7 : Gx [wl] H6 (upd H6 wl (.lst (xi ++ ys ++ [.ref t1]))) := Gx.set e56 rfl
      refine ⟨wl, _, _, rfl, rfl, e56, szlt (m := 5000) (by rw [List.length_append]; omega) (by omega), _, rfl, (g5.trans (Gx.wk g6)).trans g7, ys ++ [.ref t1], by rw [← List.append_assoc]; exact upd_same, ?_⟩
      rw [List.take_succ, ezip, List.map_append]
      exact (g7.dts (g6.dts dy)).app (.cons (.tup (g7.sqT (SqT.of e6)) (.cons (g7.dt (g6.dt (g5.dt hx))) (.cons (g7.dt (g6.dt (g5.dt hz))) .nil))) .nil)
    · rintro σ H5 ⟨w8, rfl, g5, ys, e5, dy⟩
      rw [List.take_of_length_le (by rw [List.length_zip, List.length_cons]; omega)] at dy
      have inK : ∀ x ∈ p2.kids.zip q2.kids, InF F1 F2 x.1 ∧ InF F1 F2 x.2 := fun x hx => ⟨i6.kid (List.of_mem_zip hx).1, i7.kid (List.of_mem_zip hx).2⟩
      refine ⟨_, _, _, _, _, l, S, wi ++ p2.kids.zip q2.kids, xi ++ ys, rfl, e5, ?_, T3.gx g5 (by simp [ndw.symm]), U, fun x hx => (List.mem_append.mp hx).elim (ini x) (inK x), fun θ => ?_, fun _ l' S' U' => ?_, gx3.trans (g5.mono (by simp))⟩
      · rw [List.map_append]
        exact (g5.dts dxi3).app dy
      · rw [solW θ]
        constructor
        · rintro ⟨⟨h, hw⟩, e⟩
          exact ⟨h, fun x hx => (List.mem_append.mp hx).elim (hw x) ((zip_solves ekl).mpr (kids_eq hl hl2 e) x)⟩
        · rintro ⟨h, hw⟩
          exact ⟨⟨h, fun x hx => hw x (List.mem_append_left _ hx)⟩, kids_mk hl hl2 etag ((zip_solves ekl).mp fun x hx => hw x (List.mem_append_right _ hx))⟩
      · have h1 := sizW l' S' U'
        rw [← W1.cm S' (cmp_left U'.self), kid_sizes hl] at h1
        rw [fsz_app, fsz_zip ekl]
        omega
abbrev N_Lcell : List Str := ["_law_script", "_law_k"]
theorem sc_Lcell : FnScope N_Lcell ["_law_script", "_law_k"] (defScope s_Lcell) := ⟨rfl, rfl, rfl, by decide +kernel, rfl, by decide +kernel, by decide +kernel⟩
def sp_Lcell (K : PySem.W.Frag) : Sp := fun vs H Q _ => ∃ (a : Addr) (ns : List Int) (k : Int), vs = [.ref a, .int k] ∧ SqL K H a (ns.map V.int) ∧ 0 ≤ k ∧ ∀ i : Int, Q (.int i) H
theorem ok_Lcell (B : Bn mg) (D : Df K mg "_law_cell" s_Lcell ["_law_script", "_law_k"]) : Cl CX0 P w K mg base 1 "_law_cell" (sp_Lcell K) := by
  refine D.ok sc_Lcell (fun vs H Q E h => ?_) (fun f cdv A outer s H vs Q E hr h => ?_)
  · obtain ⟨a, ns, k, rfl, _⟩ := h
    rfl
  obtain ⟨a, ns, k, rfl, hS, h0, q⟩ := h
  refine ⟨_, pss_cons (ps_if (pt_cmpR op_lt (pv 1) (pe_callB call_len_seq (by rfl) B.len PySem.boot_len (pa_cons (pv 0) pa_nil)) (nomark _)) (pss_one (ps_ret (pe_ix ix_list (pv 0) (pv 1) (fun _ _ => rfl)))) pss_nil) (pss_one (ps_ret pe_int)), ?_⟩
  refine ⟨_, rfl, _, rfl, a, _, rfl, .inl hS, _, _, rfl, rfl, _, rfl, ?_⟩
  refine ite2 (fun c => ?_) (fun c => ?_)
  · have c' := of_decide_eq_true c
    rw [List.length_map] at c'
    obtain ⟨j, rfl⟩ : ∃ j : Nat, k = (j : Int) := ⟨k.toNat, by omega⟩
    have hj : j < ns.length := by omega
    exact ⟨_, rfl, _, rfl, a, _, _, _, rfl, rfl, hS, atI_nat (by rw [List.getElem?_map, List.getElem?_eq_getElem hj]; rfl), q _⟩
  · exact q 0
abbrev N_Ldraw : List Str := ["_law_box_here", "_law_many", "_law_at"]
theorem sc_Ldraw : FnScope N_Ldraw ["_law_box_here", "_law_many"] (defScope s_Ldraw) := ⟨rfl, rfl, rfl, by decide +kernel, rfl, by decide +kernel, by decide +kernel⟩
def sp_Ldraw : Sp := fun vs H Q _ => ∃ (b dg : Addr) (m : Int), vs = [.ref b, .int m] ∧ 0 < m ∧ BxD dg H b ∧ ∀ (r : Int) (H' : Hp), 0 ≤ r → r < m → Gx [b] H H' → BxD dg H' b → Q (.int r) H'
theorem ok_Ldraw (B : Bn mg) (D : Df K mg "_law_draw" s_Ldraw ["_law_box_here", "_law_many"]) : Cl CX0 P w K mg base 1 "_law_draw" sp_Ldraw := by
  refine D.ok sc_Ldraw (fun vs H Q E h => ?_) (fun f cdv A outer s H vs Q E hr h => ?_)
  · obtain ⟨b, dg, m, rfl, _⟩ := h
    rfl
  obtain ⟨b, dg, m, rfl, hm, ⟨at_, ds, hb, h0, hd, hl, hds, hne⟩, q⟩ := h
  refine ⟨_, (pss_cons (ps_set (i := 2) sc_Ldraw.nd rfl (by first | exact Or.inl rfl | exact Or.inr rfl) (pe_ix ix_list (pv 0) pe_int (fun _ _ => rfl)))
  (pss_cons (ps_asg (pe_op op_add (pv 2) pe_int) (pg_sub (pv 0) pe_int set_list))
  (pss_cons (ps_if (pt_cmpR op_lt (pv 2) (pe_callB call_len_seq (by rfl) B.len PySem.boot_len (pa_cons (pe_ix ix_list (pv 0) pe_int (fun _ _ => rfl)) pa_nil)) (nomark _))
    (pss_one (ps_ret (pe_op op_mod (pe_callTy call_int1 (by rfl) B.int (by decide +kernel) (pa_cons (pe_ix ix_list (pe_ix ix_list (pv 0) pe_int (fun _ _ => rfl)) (pv 2) (fun _ _ => rfl)) pa_nil)) (pv 1))))
    pss_nil)
  (pss_one (ps_ret pe_int))))), ?_⟩
  refine ⟨_, rfl, b, _, _, _, rfl, rfl, SqL.of hb, rfl, ?_⟩
  refine ⟨_, rfl, _, _, rfl, rfl, _, rfl, b, _, _, 1, rfl, rfl, hb, rfl, ?_⟩
  have hb' : upd H b (.lst ([.ref dg, .int at_].set 1 (.int (at_ + 1)))) b = some (.lst [.ref dg, .int (at_ + 1)]) := upd_same
  have g : Gx [b] H (upd H b (.lst ([.ref dg, .int at_].set 1 (.int (at_ + 1))))) := Gx.set hb rfl
  have hd' := g.lst hd (by simp [hne])
  have bx : BxD dg (upd H b (.lst ([.ref dg, .int at_].set 1 (.int (at_ + 1))))) b := ⟨at_ + 1, ds, hb', by omega, hd', hl, hds, hne⟩
  refine ⟨_, rfl, _, rfl, b, _, _, _, rfl, rfl, SqL.of hb', rfl, dg, _, rfl, .inl (SqL.of hd'), _, _, rfl, rfl, _, rfl, ?_⟩
  refine ite2 (fun c => ?_) (fun c => ?_)
  · have c' := of_decide_eq_true c
    rw [List.length_map] at c'
    obtain ⟨j, rfl⟩ : ∃ j : Nat, at_ = (j : Int) := ⟨at_.toNat, by omega⟩
    have hj : j < ds.length := by omega
    have hdj := hds _ (List.getElem_mem hj)
    refine ⟨_, rfl, b, _, _, _, rfl, rfl, SqL.of hb', rfl, _, rfl, dg, _, _, _, rfl, rfl, SqL.of hd', atI_nat (by rw [List.getElem?_map, List.getElem?_eq_getElem hj]; rfl), .inl ⟨_, rfl, _, rfl, _, _, rfl, rfl, hm, ?_⟩⟩
    exact q _ _ (Int.emod_nonneg _ (by omega)) (Int.emod_lt_of_pos _ hm) g bx
  · exact q 0 _ (by omega) hm g bx
/-- digits: each from 0 to 999, not more than n -/
def Dg (ds : List Int) (n : Nat) : Prop := ds.length ≤ n ∧ ∀ d ∈ ds, 0 ≤ d ∧ d < 1000
theorem Dg.snoc {ds : List Int} {n : Nat} (h : Dg ds n) {z : Int} : Dg (ds ++ [z % 1000]) (n + 1) :=
  ⟨by rw [List.length_append, List.length_singleton]; exact Nat.succ_le_succ h.1, fun d hd => by
    rcases List.mem_append.mp hd with m | m
    · exact h.2 d m
    · rw [List.mem_singleton.mp m]; exact ⟨Int.emod_nonneg _ (by omega), Int.emod_lt_of_pos _ (by omega)⟩⟩
theorem Dg.mono {ds : List Int} {n m : Nat} (h : Dg ds n) (l : n ≤ m) : Dg ds m := ⟨Nat.le_trans h.1 l, h.2⟩
/-- a list of digits that was made here, all else as it was -/
structure Dl (H0 H : Hp) (d : Addr) (n : Nat) : Prop where
  gr : Gr H0 H
  ex : ∃ ds, H d = some (.lst (ds.map V.int)) ∧ Dg ds n
theorem Dl.snoc {H0 H : Hp} {d : Addr} {n : Nat} (h : Dl H0 H d n) (hn : H0 d = none) {ds : List Int} (e : H d = some (.lst (ds.map V.int))) (hd : Dg ds n) {z : Int} : Dl H0 (upd H d (.lst (ds.map V.int ++ [V.int (z % 1000)]))) d (n + 1) :=
  ⟨h.gr.drop (Gx.set e rfl) (fun a m => by rw [List.mem_singleton.mp m]; exact .inr hn), ds ++ [z % 1000], by rw [upd_same, List.map_append]; rfl, hd.snoc⟩
theorem Dl.mono {H0 H : Hp} {d : Addr} {n m : Nat} (h : Dl H0 H d n) (l : n ≤ m) : Dl H0 H d m := ⟨h.gr, h.ex.imp fun _ q => ⟨q.1, q.2.mono l⟩⟩
abbrev N_Ldigits : List Str := ["_law_script", "_law_first", "_law_last", "_law_digits_here", "_law_k", "_law_cell_here", "_law_turn", "_law_seed"]
theorem sc_Ldigits : FnScope N_Ldigits ["_law_script", "_law_first", "_law_last"] (defScope s_Ldigits) := ⟨rfl, rfl, rfl, by decide +kernel, rfl, by decide +kernel, by decide +kernel⟩
def sp_Ldigits (K : PySem.W.Frag) : Sp := fun vs H Q _ => ∃ (a : Addr) (ns : List Int) (f l : Int), vs = [.ref a, .int f, .int l] ∧ SqL K H a (ns.map V.int) ∧ 0 ≤ f ∧ f ≤ 63 ∧ 0 ≤ l ∧ l ≤ 63 ∧
  ∀ (d : Addr) (H' : Hp), H d = none → Dl H H' d 3780 → Q (.ref d) H'
theorem ok_Ldigits (B : Bn mg) (D : Df K mg "_law_digits" s_Ldigits ["_law_script", "_law_first", "_law_last"]) (c_Lcell : Cl CX0 P w K mg base 1 "_law_cell" (sp_Lcell K)) : Cl CX0 P w K mg base 2 "_law_digits" (sp_Ldigits K) := by
  refine D.ok sc_Ldigits (fun vs H Q E h => ?_) (fun f cdv A outer s H vs Q E hr h => ?_)
  · obtain ⟨a, ns, f, l, rfl, _⟩ := h
    rfl
  obtain ⟨a, ns, f, l, rfl, hS, f0, f1, l0, l1, q⟩ := h
  refine ⟨_, (pss_cons (ps_set (i := 3) sc_Ldigits.nd rfl (by first | exact Or.inl rfl | exact Or.inr rfl) (pe_lst pa_nil))
  (pss_cons (ps_for PassesOwn.never rfl (pi_range2 (by rfl) B.range (pa_cons (pv 1) (pa_cons (pv 2) pa_nil))) (pg_name (i := 4) sc_Ldigits.nd rfl (by first | exact Or.inl rfl | exact Or.inr rfl))
    (pss_cons (ps_set (i := 5) sc_Ldigits.nd rfl (by first | exact Or.inl rfl | exact Or.inr rfl) (pc c_Lcell hr (by omega) rfl ps0 (pa_cons (pv 0) (pa_cons (pv 4) pa_nil))))
  (C8.pss_cut (ps_if (pt_cmpR op_lt (pv 5) pe_int (nomark _))
    (pss_one (ps_set (i := 5) sc_Ldigits.nd rfl (by first | exact Or.inl rfl | exact Or.inr rfl) (pe_op op_sub pe_int (pe_op op_mul pe_int (pv 5)))))
    pss_nil)
  (pss_one (ps_if (pt_cmpR op_ge (pv 5) (pe_op op_pow pe_int pe_int) (nomark _))
    (pss_one (ps_for PassesOwn.never rfl (pi_range1 (by rfl) B.range (pa_cons pe_int pa_nil)) (pg_name (i := 6) sc_Ldigits.nd rfl (by first | exact Or.inl rfl | exact Or.inr rfl))
    (pss_one (ps_if (pt_cmpR op_gt (pv 5) pe_int (nomark _))
    (pss_cons (ps_expr (pe_bm PySem.F.plainAttrs_list PySem.F.slot_list_append PySem.F.type_list_append mt_append (pv 3) (pa_cons (pe_op op_mod (pe_callTy call_int1 (by rfl) B.int (by decide +kernel) (pa_cons (pv 5) pa_nil)) pe_int) pa_nil)))
  (pss_one (ps_set (i := 5) sc_Ldigits.nd rfl (by first | exact Or.inl rfl | exact Or.inr rfl) (pe_op op_fdiv (pv 5) pe_int))))
    pss_nil))))
    (pss_cons (ps_set (i := 7) sc_Ldigits.nd rfl (by first | exact Or.inl rfl | exact Or.inr rfl) (pe_op op_mod (pe_callTy call_int1 (by rfl) B.int (by decide +kernel) (pa_cons (pe_op op_add (pe_op op_add (pe_op op_mul (pv 5) pe_int) (pe_op op_mul (pv 4) pe_int)) pe_int) pa_nil)) pe_int))
  (pss_one (ps_for PassesOwn.never rfl (pi_range1 (by rfl) B.range (pa_cons pe_int pa_nil)) (pg_name (i := 6) sc_Ldigits.nd rfl (by first | exact Or.inl rfl | exact Or.inr rfl))
    (pss_cons (ps_set (i := 7) sc_Ldigits.nd rfl (by first | exact Or.inl rfl | exact Or.inr rfl) (pe_op op_mod (pe_callTy call_int1 (by rfl) B.int (by decide +kernel) (pa_cons (pe_op op_add (pe_op op_add (pe_op op_mul (pv 7) pe_int) (pe_op op_mul pe_int (pv 6))) pe_int) pa_nil)) pe_int))
  (pss_one (ps_expr (pe_bm PySem.F.plainAttrs_list PySem.F.slot_list_append PySem.F.type_list_append mt_append (pv 3) (pa_cons (pe_op op_mod (pe_callTy call_int1 (by rfl) B.int (by decide +kernel) (pa_cons (pe_op op_fdiv (pv 7) pe_int) pa_nil)) pe_int) pa_nil)))))))))))))
  (pss_one (ps_ret (pv 3))))), ?_⟩
  refine ⟨(by show 0 ≤ sizeLine; decide), fun d hd => ?_⟩
  refine ⟨_, rfl, _, rfl, f, l, rfl, ⟨by omega, by omega, by omega, by omega⟩, for_range (lo := f) (n := (l - f).toNat) (fun i σ H2 => ∃ v4 v5 v6 v7, σ = [some (.ref a), some (.int f), some (.int l), some (.ref d), v4, v5, v6, v7] ∧ Dl H H2 d (60 * i)) ⟨none, none, none, none, rfl, ⟨Gx.new hd, [], upd_same, Nat.zero_le _, fun d h => nomatch h⟩⟩ ?_ ?_⟩
  · rintro i σ H2 hi ⟨v4, v5, v6, v7, rfl, W⟩
    have i63 : i < 63 := by omega
    refine ⟨_, rfl, _, rfl, a, ns, f + (i : Int), rfl, W.gr.sqG hS, by omega, fun c => ?_⟩
    refine ⟨fun σ' H' => H' = H2 ∧ ∃ c : Int, σ' = [some (.ref a), some (.int f), some (.int l), some (.ref d), some (.int (f + (i : Int))), some (.int c), v6, v7], ?_, ?_⟩
    · refine ⟨_, rfl, _, _, rfl, rfl, _, rfl, ?_⟩
      refine ite2 (fun _ => ?_) (fun _ => ?_)
      · exact ⟨_, rfl, _, _, rfl, rfl, .inl ⟨by decide, by decide⟩, _, _, rfl, rfl, rfl, _, rfl⟩
      · exact ⟨rfl, _, rfl⟩
    · rintro σ' H' ⟨rfl, c, rfl⟩
      refine ⟨_, rfl, _, _, rfl, rfl, ⟨by decide, by decide, by decide⟩, _, _, rfl, rfl, _, rfl, ?_⟩
      refine ite2 (fun _ => ?_) (fun _ => ?_)
      · refine ⟨60, rfl, by decide, by decide, for_range (lo := 0) (n := 60) (fun j σ H3 => ∃ v5 v6, σ = [some (.ref a), some (.int f), some (.int l), some (.ref d), some (.int (f + (i : Int))), some (.int v5), v6, v7] ∧ Dl H H3 d (60 * i + j)) ⟨c, v6, rfl, W⟩ ?_ ?_⟩
        · rintro j σ H3 hj ⟨v5, v6, rfl, W3⟩
          obtain ⟨ds, e, hds⟩ := W3.ex
          refine ⟨_, rfl, _, _, rfl, rfl, _, rfl, ?_⟩
          refine ite2 (fun _ => ?_) (fun _ => ?_)
          · refine ⟨_, rfl, .inl ⟨rfl, _, .inl (.inl e)⟩, _, rfl, .inl ⟨_, rfl, _, _, rfl, rfl, (by show (0 : Int) < 1000; decide), d, _, _, rfl, rfl, e, ?_, ?_⟩⟩
            · rw [List.length_map]; exact szlt hds.1 (by omega)
            · exact ⟨_, rfl, _, _, rfl, rfl, ⟨by decide, by decide⟩, _, _, rfl, W3.snoc hd e hds⟩
          · exact ⟨_, _, rfl, W3.mono (Nat.le_succ _)⟩
        · rintro σ H3 ⟨v5, v6, rfl, W3⟩
          exact ⟨_, _, _, _, rfl, W3.mono (by omega)⟩
      · refine ⟨_, rfl, _, _, rfl, rfl, .inr ⟨by decide, by decide⟩, _, rfl, _, _, rfl, rfl, .inr ⟨by decide, by decide⟩, _, _, rfl, rfl, _, _, rfl, rfl, .inl ⟨_, rfl, _, _, rfl, rfl, (by show (0 : Int) < 2147483647; decide), ?_⟩⟩
        refine ⟨12, rfl, by decide, by decide, for_range (lo := 0) (n := 12) (fun j σ H3 => ∃ v6 v7, σ = [some (.ref a), some (.int f), some (.int l), some (.ref d), some (.int (f + (i : Int))), some (.int c), v6, some (.int v7)] ∧ Dl H H3 d (60 * i + j)) ⟨_, _, rfl, W⟩ ?_ ?_⟩
        · rintro j σ H3 hj ⟨v6, v7, rfl, W3⟩
          obtain ⟨ds, e, hds⟩ := W3.ex
          refine ⟨_, rfl, _, _, rfl, rfl, .inr ⟨by decide, by decide⟩, _, rfl, _, _, rfl, rfl, .inl ⟨by decide, by decide⟩, _, _, rfl, rfl, _, _, rfl, rfl, .inl ⟨_, rfl, _, _, rfl, rfl, (by show (0 : Int) < 2147483647; decide), ?_⟩⟩
          refine ⟨_, rfl, .inl ⟨rfl, _, .inl (.inl e)⟩, _, rfl, _, _, rfl, rfl, ⟨by decide, by decide⟩, .inl ⟨_, rfl, _, _, rfl, rfl, (by show (0 : Int) < 1000; decide), d, _, _, rfl, rfl, e, ?_, ?_⟩⟩
          · rw [List.length_map]; exact szlt hds.1 (by omega)
          · exact ⟨_, _, rfl, W3.snoc hd e hds⟩
        · rintro σ H3 ⟨v6, v7, rfl, W3⟩
          exact ⟨_, _, _, _, rfl, W3.mono (by omega)⟩
  · rintro σ H2 ⟨v4, v5, v6, v7, rfl, W⟩
    exact ⟨_, rfl, q d _ hd (W.mono (by omega))⟩
abbrev N_Lbox : List Str := ["_law_script", "_law_first", "_law_last"]
theorem sc_Lbox : FnScope N_Lbox ["_law_script", "_law_first", "_law_last"] (defScope s_Lbox) := ⟨rfl, rfl, rfl, by decide +kernel, rfl, by decide +kernel, by decide +kernel⟩
def sp_Lbox (K : PySem.W.Frag) : Sp := fun vs H Q _ => ∃ (a : Addr) (ns : List Int) (f l : Int), vs = [.ref a, .int f, .int l] ∧ SqL K H a (ns.map V.int) ∧ 0 ≤ f ∧ f ≤ 63 ∧ 0 ≤ l ∧ l ≤ 63 ∧
  ∀ (b : Addr) (H' : Hp), H b = none → Gr H H' → Bx H' b → Q (.ref b) H'
theorem ok_Lbox (B : Bn mg) (D : Df K mg "_law_box" s_Lbox ["_law_script", "_law_first", "_law_last"]) (c_Ldigits : Cl CX0 P w K mg base 2 "_law_digits" (sp_Ldigits K)) : Cl CX0 P w K mg base 3 "_law_box" (sp_Lbox K) := by
  refine D.ok sc_Lbox (fun vs H Q E h => ?_) (fun f cdv A outer s H vs Q E hr h => ?_)
  · obtain ⟨a, ns, f, l, rfl, _⟩ := h
    rfl
  obtain ⟨a, ns, f, l, rfl, hS, f0, f1, l0, l1, q⟩ := h
  refine ⟨_, (pss_one (ps_ret (pe_lst (pa_cons (pc c_Ldigits hr (by omega) rfl ps0 (pa_cons (pv 0) (pa_cons (pv 1) (pa_cons (pv 2) pa_nil)))) (pa_cons pe_int pa_nil))))), ?_⟩
  refine ⟨_, rfl, _, rfl, _, rfl, a, ns, f, l, rfl, hS, f0, f1, l0, l1, fun d H1 hd W => ?_⟩
  refine ⟨(by show 2 ≤ sizeLine; decide), fun p hp => ?_⟩
  obtain ⟨ds, e, hds⟩ := W.ex
  have n1 : d ≠ p := ne_of_none e hp
  exact q p _ (W.gr.dom _ hp) (W.gr.trans (Gx.new hp)) ⟨d, 0, ds, upd_same, by omega, by rw [upd_ne n1]; exact e, by have := hds.1; omega, hds.2, n1⟩
def L8 : List Str := ["a", "b", "c", "d", "e", "f", "g", "h"]
theorem l8_at : ∀ (j : Nat), j < 8 → ∃ c, ("abcdefgh" : Str).cps.toList[j]? = some c ∧ (⟨#[c]⟩ : Str) ∈ L8
  | 0, _ => ⟨_, rfl, by decide +kernel⟩ | 1, _ => ⟨_, rfl, by decide +kernel⟩ | 2, _ => ⟨_, rfl, by decide +kernel⟩ | 3, _ => ⟨_, rfl, by decide +kernel⟩
  | 4, _ => ⟨_, rfl, by decide +kernel⟩ | 5, _ => ⟨_, rfl, by decide +kernel⟩ | 6, _ => ⟨_, rfl, by decide +kernel⟩ | 7, _ => ⟨_, rfl, by decide +kernel⟩
  | n + 8, h => absurd h (by omega)
theorem l8_int {r : Int} (h0 : 0 ≤ r) (h1 : r < 8) : ∃ c, atI ("abcdefgh" : Str).cps.toList r = some c ∧ (⟨#[c]⟩ : Str) ∈ L8 := by
  obtain ⟨j, rfl⟩ : ∃ j : Nat, r = (j : Int) := ⟨r.toNat, by omega⟩
  obtain ⟨c, e, m⟩ := l8_at j (by omega)
  exact ⟨c, atI_nat e, m⟩
theorem l8_atM : ∀ (j : Nat), j < 8 → ∃ c, ("abcdefgh" : Str).cps.toList[j]? = some c ∧ L8[j]? = some (⟨#[c]⟩ : Str)
  | 0, _ => ⟨_, rfl, by decide +kernel⟩ | 1, _ => ⟨_, rfl, by decide +kernel⟩ | 2, _ => ⟨_, rfl, by decide +kernel⟩ | 3, _ => ⟨_, rfl, by decide +kernel⟩
  | 4, _ => ⟨_, rfl, by decide +kernel⟩ | 5, _ => ⟨_, rfl, by decide +kernel⟩ | 6, _ => ⟨_, rfl, by decide +kernel⟩ | 7, _ => ⟨_, rfl, by decide +kernel⟩
  | n + 8, h => absurd h (by omega)
theorem l8_intM {r many : Int} (h0 : 0 ≤ r) (h1 : r < many) (h2 : many ≤ 8) : ∃ c, atI ("abcdefgh" : Str).cps.toList r = some c ∧ (⟨#[c]⟩ : Str) ∈ L8.take many.toNat := by
  obtain ⟨j, rfl⟩ : ∃ j : Nat, r = (j : Int) := ⟨r.toNat, by omega⟩
  obtain ⟨c, e, m⟩ := l8_atM j (by omega)
  refine ⟨c, atI_nat e, List.mem_of_getElem? (i := j) ?_⟩
  rw [List.getElem?_take, if_pos (by omega)]
  exact m
abbrev N_Lany : List Str := ["_law_box_here", "_law_room", "_law_many", "_law_kind", "_law_left", "_law_first"]
theorem sc_Lany : FnScope N_Lany ["_law_box_here", "_law_room", "_law_many"] (defScope s_Lany) := ⟨rfl, rfl, rfl, by decide +kernel, rfl, by decide +kernel, by decide +kernel⟩
def sp_Lany (K : PySem.W.Frag) (n : Nat) : Sp := fun vs H Q _ => ∃ (b dg : Addr) (room many : Int), vs = [.ref b, .int room, .int many] ∧ BxD dg H b ∧ 0 ≤ room ∧ room < n ∧ 1 ≤ many ∧ many ≤ 8 ∧
  ∀ (v : V) (f : Fm) (H' : Hp), Gx [b] H H' → BxD dg H' b → FmV K H' v f → ((f.size : Int) ≤ room ∨ f.size = 1) → (∀ x ∈ f.lets, x ∈ L8.take many.toNat) → Q v H'
theorem st_Lany {n : Nat} (B : Bn mg) (D : Df K mg "_law_any" s_Lany ["_law_box_here", "_law_room", "_law_many"]) (c_Ldraw : Cl CX0 P w K mg base 1 "_law_draw" sp_Ldraw) (c_Lany : Cl CX0 P w K mg base (n + 1) "_law_any" (sp_Lany K n)) :
    Cl CX0 P w K mg base (n + 2) "_law_any" (sp_Lany K (n + 1)) := by
  refine D.ok sc_Lany (fun vs H Q E h => ?_) (fun f cdv A outer s H vs Q E hr h => ?_)
  · obtain ⟨b, dg, room, many, rfl, _⟩ := h
    rfl
  obtain ⟨b, dg, room, many, rfl, hB, h0, hn, m0, m1, q⟩ := h
  refine ⟨_, (pss_cons (ps_set (i := 3) sc_Lany.nd rfl (by first | exact Or.inl rfl | exact Or.inr rfl) (pc c_Ldraw hr (by omega) rfl ps0 (pa_cons (pv 0) (pa_cons pe_int pa_nil))))
  (pss_cons (ps_if (PW.pt (pw_or (pt_cmpR op_lt (pv 1) pe_int (nomark _)) (pw_or1 (pt_cmpR op_lt (pv 3) pe_int (nomark _)))))
    (pss_one (ps_ret (pe_tup (pa_cons pe_str (pa_cons (pe_ix ix_str pe_str (pc c_Ldraw hr (by omega) rfl ps0 (pa_cons (pv 0) (pa_cons (pv 2) pa_nil))) (fun _ _ => rfl)) pa_nil)))))
    pss_nil)
  (pss_cons (ps_if (PW.pt (pw_or (pt_cmpR op_lt (pv 1) pe_int (nomark _)) (pw_or1 (pt_cmpR op_lt (pv 3) pe_int (nomark _)))))
    (pss_one (ps_ret (pe_tup (pa_cons pe_str (pa_cons (pc c_Lany hr (by omega) rfl ps0 (pa_cons (pv 0) (pa_cons (pe_op op_sub (pv 1) pe_int) (pa_cons (pv 2) pa_nil)))) pa_nil)))))
    pss_nil)
  (pss_cons (ps_set (i := 4) sc_Lany.nd rfl (by first | exact Or.inl rfl | exact Or.inr rfl) (pe_op op_add pe_int (pc c_Ldraw hr (by omega) rfl ps0 (pa_cons (pv 0) (pa_cons (pe_op op_sub (pv 1) pe_int) pa_nil)))))
  (pss_cons (ps_set (i := 5) sc_Lany.nd rfl (by first | exact Or.inl rfl | exact Or.inr rfl) (pc c_Lany hr (by omega) rfl ps0 (pa_cons (pv 0) (pa_cons (pv 4) (pa_cons (pv 2) pa_nil)))))
  (pss_one (ps_ret (pe_tup (pa_cons pe_str (pa_cons (pv 5) (pa_cons (pc c_Lany hr (by omega) rfl ps0 (pa_cons (pv 0) (pa_cons (pe_op op_sub (pe_op op_sub (pv 1) pe_int) (pv 4)) (pa_cons (pv 2) pa_nil)))) pa_nil))))))))))), ?_⟩
  refine ⟨_, rfl, b, dg, 8, rfl, by decide, hB, fun kind H1 k0 k1 g1 B1 => ?_⟩
  refine ⟨_, rfl, _, _, rfl, rfl, _, rfl, ite2 (fun c => iteT ?l1) (fun c1 => ⟨_, rfl, _, _, rfl, rfl, _, rfl, ite2 (fun c => ?l2) (fun c => ?l3)⟩)⟩
  case l1 | l2 =>
    refine ⟨_, rfl, _, rfl, b, dg, many, rfl, by omega, B1, fun r H2 r0 r1 g2 B2 => ?_⟩
    obtain ⟨cc, e, m⟩ := l8_intM r0 r1 m1
    refine ⟨_, r, cc, rfl, rfl, (by decide : ("abcdefgh" : Str).length ≤ sizeLine), e, (by show 2 ≤ sizeLine; decide), fun p hp => ?_⟩
    have g3 : Gx [b] H2 (upd H2 p (.tup [.str "letter", .str ⟨#[cc]⟩])) := Gx.new hp
    exact q _ (.lt ⟨#[cc]⟩) _ ((g1.trans g2).trans g3) (B2.gr (Gx.new hp)) (mk_lt (SqT.of upd_same)) (.inr rfl) fun x hx => by rw [List.mem_singleton.mp hx]; exact m
  have r2 : ¬ room < 2 := fun z => c1 (decide_eq_true z)
  refine ⟨_, rfl, _, _, rfl, rfl, _, rfl, ite2 (fun c => iteT ?m1) (fun c3 => ⟨_, rfl, _, _, rfl, rfl, _, rfl, ite2 (fun c => ?m2) (fun c => ?m3)⟩)⟩
  case m1 | m2 =>
    refine ⟨_, rfl, _, rfl, _, _, rfl, rfl, _, rfl, b, dg, room - 1, many, rfl, B1, by omega, by omega, m0, m1, fun v f H2 g2 B2 hf hs hl => ?_⟩
    refine ⟨(by show 2 ≤ sizeLine; decide), fun p hp => ?_⟩
    have g3 : Gx [b] H2 (upd H2 p (.tup [.str "not", v])) := Gx.new hp
    refine q _ (.ng f) _ ((g1.trans g2).trans g3) (B2.gr (Gx.new hp)) (mk_ng (SqT.of upd_same) (g3.dt hf)) (.inl ?_) hl
    show ((1 + f.size : Nat) : Int) ≤ room
    omega
  have r3 : ¬ room < 3 := fun z => c3 (decide_eq_true z)
  refine ⟨_, rfl, _, rfl, _, _, rfl, rfl, b, dg, room - 2, rfl, by omega, B1, fun r H2 r0 r1 g2 B2 => ?_⟩
  refine ⟨_, _, rfl, rfl, _, rfl, _, rfl, _, rfl, b, dg, 1 + r, many, rfl, B2, by omega, by omega, m0, m1, fun v f H3 g3 B3 hf hs hl => ?_⟩
  refine ⟨_, rfl, _, rfl, _, rfl, _, _, rfl, rfl, _, rfl, _, _, rfl, rfl, _, rfl, b, dg, room - 1 - (1 + r), many, rfl, B3, by omega, by omega, m0, m1, fun v4 f4 H4 g4 B4 hf4 hs4 hl4 => ?_⟩
  refine ⟨(by show 3 ≤ sizeLine; decide), fun p hp => ?_⟩
  have g5 : Gx [b] H4 (upd H4 p (.tup [.str "if", v, v4])) := Gx.new hp
  refine q _ (.im f f4) _ ((((g1.trans g2).trans g3).trans g4).trans g5) (B4.gr (Gx.new hp)) (mk_im (SqT.of upd_same) (g5.dt (g4.dt hf)) (g5.dt hf4)) (.inl ?_) fun x hx => (List.mem_append.mp hx).elim (hl x) (hl4 x)
  show ((1 + (f.size + f4.size) : Nat) : Int) ≤ room
  omega
theorem ok_Lany (B : Bn mg) (D : Df K mg "_law_any" s_Lany ["_law_box_here", "_law_room", "_law_many"]) (c_Ldraw : Cl CX0 P w K mg base 1 "_law_draw" sp_Ldraw) : ∀ n : Nat, Cl CX0 P w K mg base (n + 1) "_law_any" (sp_Lany K n)
  | 0 => D.none fun vs H Q E ⟨b, dg, room, many, _, _, h0, h1, _⟩ => by omega
  | n + 1 => st_Lany B D c_Ldraw (ok_Lany B D c_Ldraw n)
/-- all parts, as they stand -/
def Fm.parts : Fm → List Fm
  | .lt n => [.lt n]
  | .ng p => .ng p :: p.parts
  | .im p q => .im p q :: (p.parts ++ q.parts)
theorem Fm.parts_len : ∀ f : Fm, f.parts.length = f.size
  | .lt _ => rfl
  | .ng p => by simp only [Fm.parts, Fm.size, List.length_cons, p.parts_len]; omega
  | .im p q => by simp only [Fm.parts, Fm.size, List.length_cons, List.length_append, p.parts_len, q.parts_len]; omega
theorem Fm.parts_node {f : Fm} (h : f.isLt = false) : f.parts = f :: (f.kids.map Fm.parts).flatten := by
  cases f with
  | lt _ => cases h
  | ng p => simp [Fm.parts, Fm.kids]
  | im p q => simp [Fm.parts, Fm.kids]
theorem parts_take {f : Fm} (h : f.isLt = false) (i : Nat) : 1 + (((f.kids.take i).map Fm.parts).flatten).length ≤ f.size := by
  have e : (((f.kids.take i).map Fm.parts).flatten).length = ((f.kids.take i).map Fm.size).sum := by
    rw [List.length_flatten, List.map_map]
    refine congrArg List.sum (List.map_congr_left fun g _ => g.parts_len)
  have := take_sum f.kids i
  have := kids_size h
  rw [e]; omega
abbrev N_Lparts : List Str := ["_law_formula", "_law_rows", "_law_part"]
theorem sc_Lparts : FnScope N_Lparts ["_law_formula"] (defScope s_Lparts) := ⟨rfl, rfl, rfl, by decide +kernel, rfl, by decide +kernel, by decide +kernel⟩
def sp_Lparts (K : PySem.W.Frag) (n : Nat) : Sp := fun vs H Q _ => ∃ (v : V) (f : Fm), vs = [v] ∧ FmV K H v f ∧ f.depth ≤ n ∧ f.size ≤ 1000 ∧ ∀ (c : Addr) (xs : List V) (H' : Hp), Gr H H' → H' c = some (.lst xs) → DtAll K H' xs (f.parts.map Fm.d) → Q (.ref c) H'
theorem st_Lparts {n : Nat} (B : Bn mg) (D : Df K mg "_law_parts" s_Lparts ["_law_formula"]) (c_Lparts : Cl CX0 P w K mg base n "_law_parts" (sp_Lparts K n)) : Cl CX0 P w K mg base (n + 1) "_law_parts" (sp_Lparts K (n + 1)) := by
  refine D.ok sc_Lparts (fun vs H Q E h => ?_) (fun f cdv A outer s H vs Q E hr h => ?_)
  · obtain ⟨v, f, rfl, _⟩ := h
    rfl
  obtain ⟨v, f, rfl, hf, hn, hz, q⟩ := h
  refine ⟨_, (pss_cons (ps_set (i := 1) sc_Lparts.nd rfl (by first | exact Or.inl rfl | exact Or.inr rfl) (pe_lst (pa_cons (pv 0) pa_nil)))
  (pss_cons (ps_for PassesOwn.never rfl (pi_tup (pe_slice sl_tup (pv 0) (po_some pe_int) po_none)) (pg_name (i := 2) sc_Lparts.nd rfl (by first | exact Or.inl rfl | exact Or.inr rfl))
    (pss_one (ps_if (pt_cmpR op_ne (pe_ix ix_tup (pv 0) pe_int (fun _ _ => rfl)) pe_str (nomark _))
    (pss_one (ps_set (i := 1) sc_Lparts.nd rfl (by first | exact Or.inl rfl | exact Or.inr rfl) (pe_op op_cat (pv 1) (pc c_Lparts hr (by omega) rfl ps0 (pa_cons (pv 2) pa_nil)))))
    pss_nil)))
  (pss_one (ps_ret (pv 1))))), ?_⟩
  refine ⟨_, rfl, (by show 1 ≤ sizeLine; decide), fun c hc => ?_⟩
  generalize z0 : upd H c _ = H0
  obtain ⟨g0, e0⟩ := hA_gr z0 hc
  cases hl : f.isLt with
  | true =>
    cases f with
    | lt x =>
      obtain ⟨a, rfl, ha⟩ := fm_lt hf
      refine ⟨_, rfl, 1, rfl, a, _, rfl, g0.sqT ha, cut_ok _ _, fun c1 hc1 => ?_⟩
      rw [cut_tl]
      generalize z1 : upd H0 c1 _ = H1
      obtain ⟨g1, e1⟩ := hA_gr z1 hc1
      refine ⟨c1, rfl, ⟨_, SqT.of e1⟩, for_tup (K := K) (a := c1) (xs := [.str x]) (fun i σ H' => ∃ v2, σ = [some (.ref a), some (.ref c), v2] ∧ H' = H1) ⟨none, rfl, rfl⟩ (fun i σ H' _ ⟨_, _, e⟩ => by rw [e]; exact SqT.of e1) ?_ ?_⟩
      · rintro i y σ H' hi ⟨v2, rfl, rfl⟩
        refine ⟨_, rfl, a, _, _, _, rfl, rfl, g1.sqT (g0.sqT ha), at0, (by decide : scal (V.str "letter") (V.str "letter") = true), _, rfl, ?_⟩
        refine iteNS rfl ⟨_, rfl, rfl⟩
      · rintro σ H' ⟨v2, rfl, rfl⟩
        refine ⟨_, rfl, q c _ _ (g0.trans g1) (g1.lst e0 (fun m => nomatch m)) (.cons ((g0.trans g1).dt hf) .nil)⟩
    | ng p => cases hl
    | im p q => cases hl
  | false =>
    obtain ⟨a, xs, rfl, ha, hk⟩ := fm_node hf hl
    have hlen : xs.length = f.kids.length := by rw [hk.len, List.length_map]
    refine ⟨_, rfl, 1, rfl, a, _, rfl, g0.sqT ha, cut_ok _ _, fun c1 hc1 => ?_⟩
    rw [cut_tl]
    generalize z1 : upd H0 c1 _ = H1
    obtain ⟨g1, e1⟩ := hA_gr z1 hc1
    have g01 := g0.trans g1
    refine ⟨c1, rfl, ⟨_, SqT.of e1⟩, for_tup (K := K) (a := c1) (xs := xs) (fun i σ H' => ∃ v2 c2 ys, σ = [some (.ref a), some (.ref c2), v2] ∧ Gr H1 H' ∧ H' c2 = some (.lst ys) ∧ DtAll K H' ys ((f :: ((f.kids.take i).map Fm.parts).flatten).map Fm.d)) ⟨none, c, [.ref a], rfl, Gx.refl, g1.lst e0 (fun m => nomatch m), .cons (g01.dt hf) .nil⟩ (fun i σ H' _ ⟨_, _, _, _, g, _⟩ => g.sqT (SqT.of e1)) ?_ ?_⟩
    · rintro i x σ H' hi ⟨v2, c2, ys, rfl, g, e2, hy⟩
      have hik : i < f.kids.length := by rw [← hlen]; exact (List.getElem?_eq_some_iff.mp hi).1
      obtain ⟨x', ex, hx'⟩ := hk.get (i := i) (d := (f.kids[i]).d) (by rw [List.getElem?_map, List.getElem?_eq_getElem hik]; rfl)
      rw [hi] at ex; cases ex
      have hm : f.kids[i] ∈ f.kids := List.getElem_mem hik
      have hd := Fm.kids_depth hm
      have hks := kid_size hm
      have gH := g01.trans g
      refine ⟨_, rfl, a, _, _, _, rfl, rfl, gH.sqT ha, at0, (by rfl : scal (V.str f.tag) (V.str "letter") = true), _, rfl, ?_⟩
      rw [Fm.tag_ne hl]
      refine iteT ?_
      refine ⟨_, rfl, _, rfl, x, f.kids[i], rfl, gH.dt hx', by omega, by omega, fun c3 zs H3 g3 e3 hz3 => ?_⟩
      have pl := (f.kids[i]).parts_len
      have ly := hy.len
      have lz := hz3.len
      rw [List.length_map] at lz
      have pt := parts_take hl (i + 1)
      have e4 : f.kids.take (i + 1) = f.kids.take i ++ [f.kids[i]] := by rw [List.take_succ, List.getElem?_eq_getElem hik]; rfl
      have e5 : ((f.kids.take (i + 1)).map Fm.parts).flatten = ((f.kids.take i).map Fm.parts).flatten ++ (f.kids[i]).parts := by rw [e4, List.map_append, List.flatten_append]; simp
      rw [e5, List.length_append] at pt
      rw [List.length_map, List.length_cons] at ly
      refine ⟨c2, c3, _, _, rfl, rfl, g3.lst e2 (fun m => nomatch m), e3, szle (m := 2000) (by omega) (by omega), fun k hk2 => ?_⟩
      have gk : Gr H3 (upd H3 k (.lst (ys ++ zs))) := Gx.new hk2
      refine ⟨_, k, _, rfl, (g.trans g3).trans gk, upd_same, ?_⟩
      rw [e5, ← List.cons_append, List.map_append]
      exact DtAll.app (gk.dts (g3.dts hy)) (gk.dts hz3)
    · rintro σ H' ⟨v2, c2, ys, rfl, g, e2, hy⟩
      rw [List.take_of_length_le (by omega), ← Fm.parts_node hl] at hy
      exact ⟨_, rfl, q c2 ys _ (g01.trans g) e2 hy⟩
theorem ok_Lparts (B : Bn mg) (D : Df K mg "_law_parts" s_Lparts ["_law_formula"]) : ∀ n : Nat, Cl CX0 P w K mg base n "_law_parts" (sp_Lparts K n)
  | 0 => D.none fun vs H Q E ⟨_, f, _, _, h, _⟩ => by have := f.depth_pos; omega
  | n + 1 => st_Lparts B D (ok_Lparts B D n)
/-- the names of the letters among formulas -/
def lns : List Fm → List Str
  | [] => []
  | .lt n :: r => n :: lns r
  | _ :: r => lns r
theorem lns_app : ∀ (l m : List Fm), lns (l ++ m) = lns l ++ lns m
  | [], m => rfl
  | .lt n :: l, m => by show n :: lns (l ++ m) = n :: (lns l ++ lns m); rw [lns_app l m]
  | .ng p :: l, m => lns_app l m
  | .im p q :: l, m => lns_app l m
theorem lns_len : ∀ l : List Fm, (lns l).length ≤ l.length
  | [] => Nat.le_refl _
  | .lt n :: l => Nat.succ_le_succ (lns_len l)
  | .ng p :: l => Nat.le_succ_of_le (lns_len l)
  | .im p q :: l => Nat.le_succ_of_le (lns_len l)
theorem lns_parts : ∀ f : Fm, lns f.parts = f.lets
  | .lt n => rfl
  | .ng p => lns_parts p
  | .im p q => by
    show lns (p.parts ++ q.parts) = _
    rw [lns_app, lns_parts p, lns_parts q]; rfl
abbrev N_Lnames : List Str := ["_law_formula", "_law_part"]
theorem sc_Lnames : FnScope N_Lnames ["_law_formula"] (defScope s_Lnames) := ⟨rfl, rfl, rfl, by decide +kernel, rfl, by decide +kernel, by decide +kernel⟩
def sp_Lnames (K : PySem.W.Frag) (n : Nat) : Sp := fun vs H Q _ => ∃ (v : V) (f : Fm), vs = [v] ∧ FmV K H v f ∧ f.depth ≤ n ∧ f.size ≤ 1000 ∧
  ∀ (c : Addr) (xs : List Str) (H' : Hp), Gr H H' → H' c = some (.lst (xs.map V.str)) → sortedS xs = true → xs.Nodup → (∀ y, y ∈ xs ↔ y ∈ f.lets) → xs.length ≤ 1000 → Q (.ref c) H'
theorem ok_Lnames {n : Nat} (B : Bn mg) (D : Df K mg "_law_names" s_Lnames ["_law_formula"]) (c_Lparts : Cl CX0 P w K mg base n "_law_parts" (sp_Lparts K n)) : Cl CX0 P w K mg base (n + 1) "_law_names" (sp_Lnames K n) := by
  refine D.ok sc_Lnames (fun vs H Q E h => ?_) (fun f cdv A outer s H vs Q E hr h => ?_)
  · obtain ⟨v, f, rfl, _⟩ := h
    rfl
  obtain ⟨v, f, rfl, hf, hn, hz, q⟩ := h
  refine ⟨_, (pss_one (ps_ret (pe_callB (cr_sortedT rfl) (by rfl) B.sorted (by decide +kernel) (pa_cons (pe_callTy (cr_setOfS rfl) (by rfl) B.set (by decide +kernel) (pa_cons (pe_lc (own := [("_law_part", 1)]) rfl sc_Lnames.nd (pi_list (pc c_Lparts hr (by omega) rfl ps0 (pa_cons (pv 0) pa_nil))) (blkOk_by (N := N_Lnames) (sc := defScope s_Lnames) (by decide +kernel)) (fun _ _ _ _ _ => (pg_name (i := 1) sc_Lnames.nd rfl (by first | exact Or.inl rfl | exact Or.inr rfl))) (fun _ _ _ _ _ => (pts_one (pt_cmpR op_eq (pe_ix (ix_tupK (K := K) rfl) (pv 1) pe_int (fun _ _ => rfl)) pe_str (nomark _)))) (fun _ _ _ _ _ => (pe_ix (ix_tupK (K := K) rfl) (pv 1) pe_int (fun _ _ => rfl)))) pa_nil)) pa_nil)))), ?_⟩
  refine ⟨_, rfl, v, f, rfl, hf, hn, hz, fun c xs H1 g1 e1 hx => ?_⟩
  have hlen : xs.length = f.parts.length := by rw [hx.len, List.length_map]
  have pl := f.parts_len
  refine ⟨c, rfl, ⟨_, SqL.of e1⟩, fun D hD => ?_⟩
  refine lc_list (K := K) (a := c) (xs := xs) (fun i H2 => Gr H1 H2 ∧ H2 D = some (.lst ((lns (f.parts.take i)).map V.str))) ⟨Gx.new hD, upd_same⟩ (fun i H2 _ ⟨g, _⟩ => SqL.of (g.lst e1 (fun m => nomatch m))) ?_ ?_
  · rintro i x H2 hi ⟨g2, e2⟩
    have hik : i < f.parts.length := by rw [← hlen]; exact (List.getElem?_eq_some_iff.mp hi).1
    obtain ⟨x', ex, hx'⟩ := hx.get (i := i) (d := (f.parts[i]).d) (by rw [List.getElem?_map, List.getElem?_eq_getElem hik]; rfl)
    rw [hi] at ex; cases ex
    have et : f.parts.take (i + 1) = f.parts.take i ++ [f.parts[i]] := by rw [List.take_succ, List.getElem?_eq_getElem hik]; rfl
    have hx2 : FmV K H2 x (f.parts[i]) := g2.dt hx'
    have ll := lns_len (f.parts.take i)
    rw [List.length_take] at ll
    generalize hg : f.parts[i] = g at hx2 et
    cases hlt : g.isLt with
    | true =>
      cases g with
      | lt y =>
        obtain ⟨a, rfl, ha⟩ := fm_lt hx2
        refine ⟨rfl, _, rfl, a, _, _, _, rfl, rfl, ha, rfl, (by decide : scal (V.str "letter") (V.str "letter") = true), _, rfl, ?_⟩
        refine iteT ⟨_, rfl, a, _, _, _, rfl, rfl, ha, rfl, _, e2, ?_, ?_, ?_⟩
        · rw [List.length_map]; exact szlt (m := 1000) (by omega) (by omega)
        · exact g2.drop (Gx.set e2 rfl) fun z m => .inr (by rw [List.mem_singleton.mp m]; exact hD)
        · rw [et, lns_app, List.map_append]; exact upd_same
      | ng p => cases hlt
      | im p q => cases hlt
    | false =>
      obtain ⟨a, ys, rfl, ha, hk⟩ := fm_node hx2 hlt
      refine ⟨rfl, _, rfl, a, _, _, _, rfl, rfl, ha, at0, (by rfl : scal (V.str g.tag) (V.str "letter") = true), _, rfl, ?_⟩
      rw [Fm.tag_ne hlt]
      refine iteF ⟨g2, ?_⟩
      have en : lns [g] = [] := by
        cases g with
        | lt y => cases hlt
        | ng p => rfl
        | im p q => rfl
      rw [et, lns_app, en, List.append_nil]; exact e2
  · rintro H2 ⟨g2, e2⟩
    rw [List.take_of_length_le (by omega), lns_parts] at e2
    have ll := lns_len f.parts
    rw [lns_parts] at ll
    refine ⟨D, f.lets, rfl, SqL.of e2, by unfold scanBound; omega, fun a l ha hl hm => ?_⟩
    refine ⟨a, l, rfl, upd_same, szle (m := 1000) (by omega) (by omega), fun ys p pm hs nd hp => ?_⟩
    have gp : Gr H2 (upd (upd H2 a (SetTO _ _ a l)) p (.lst (ys.map V.str))) := (Gx.new ha).trans (Gx.new hp)
    exact q p ys _ ((g1.trans g2).trans gp) upd_same hs nd (fun y => by rw [pm.mem_iff]; exact hm y) (by rw [pm.length_eq]; omega)
abbrev N_Lput : List Str := ["_law_formula", "_law_table", "_law_part"]
theorem sc_Lput : FnScope N_Lput ["_law_formula", "_law_table"] (defScope s_Lput) := ⟨rfl, rfl, rfl, by decide +kernel, rfl, by decide +kernel, by decide +kernel⟩
def sp_Lput (K : PySem.W.Frag) (n : Nat) : Sp := fun vs H Q _ => ∃ (v : V) (d : Addr) (f : Fm) (t : Str → Option Fm), vs = [v, .ref d] ∧ FmV K H v f ∧ f.depth ≤ n ∧ (∃ N, Tb K H d N t) ∧
  ∀ (u : V) (H' : Hp), Gr H H' → FmV K H' u (f.put t) → Q u H'
theorem st_Lput {n : Nat} (B : Bn mg) (D : Df K mg "_law_put" s_Lput ["_law_formula", "_law_table"]) (c_Lput : Cl CX0 P w K mg base n "_law_put" (sp_Lput K n)) : Cl CX0 P w K mg base (n + 1) "_law_put" (sp_Lput K (n + 1)) := by
  refine D.ok sc_Lput (fun vs H Q E h => ?_) (fun f cdv A outer s H vs Q E hr h => ?_)
  · obtain ⟨v, d, f, t, rfl, _⟩ := h
    rfl
  obtain ⟨v, d, f, t, rfl, hf, hn, ⟨N0, hT⟩, q⟩ := h
  refine ⟨_, (pss_cons (ps_if (pt_cmpR op_eq (pe_ix ix_tup (pv 0) pe_int (fun _ _ => rfl)) pe_str (nomark _))
    (pss_one (ps_ret (pe_dget2 (hu_of hr) (pv 1) (pe_ix ix_tup (pv 0) pe_int (fun _ _ => rfl)) (pv 0) ⟨rfl, by rfl, by rfl, by rfl⟩)))
    pss_nil)
  (pss_one (ps_ret (pe_op op_catT (pe_tup (pa_cons (pe_ix ix_tup (pv 0) pe_int (fun _ _ => rfl)) pa_nil)) (pe_callTy call_tuple_of (by rfl) B.tuple (by decide +kernel) (pa_cons (pe_lc (own := [("_law_part", 2)]) rfl sc_Lput.nd (pi_tup (pe_slice sl_tup (pv 0) (po_some pe_int) po_none)) (blkOk_by (N := N_Lput) (sc := defScope s_Lput) (by decide +kernel)) (fun _ _ _ _ _ => (pg_name (i := 2) sc_Lput.nd rfl (by first | exact Or.inl rfl | exact Or.inr rfl))) (fun _ _ _ _ _ => pts_nil) (fun _ _ _ _ _ => (pc c_Lput hr (by omega) rfl ps0 (pa_cons (pv 2) (pa_cons (pv 1) pa_nil))))) pa_nil)))))), ?_⟩
  cases hl : f.isLt with
  | true =>
    cases f with
    | lt x =>
      obtain ⟨a, rfl, ha⟩ := fm_lt hf
      obtain ⟨kvs, h1, h2, h3⟩ := hT.ex
      refine ⟨_, rfl, a, _, _, _, rfl, rfl, ha, rfl, (by decide : scal (V.str "letter") (V.str "letter") = true), _, rfl, ?_⟩
      refine iteT ?_
      refine ⟨_, rfl, d, rfl, .inl ⟨kvs, .inl h1⟩, _, rfl, a, _, _, _, rfl, rfl, ha, rfl, _, rfl, _, DGet.k (k := Sum.inr x) h1, ?_⟩
      rcases h3 x with ⟨e1, e2⟩ | ⟨g, u, e1, e2, hu⟩
      · rw [e2]
        refine q _ _ Gx.refl ?_
        show FmV K H _ ((t x).getD (.lt x))
        rw [e1]; exact hf
      · rw [e2]
        refine q _ _ Gx.refl ?_
        show FmV K H _ ((t x).getD (.lt x))
        rw [e1]; exact hu
    | ng p => cases hl
    | im p q => cases hl
  | false =>
    obtain ⟨a, xs, rfl, ha, hk⟩ := fm_node hf hl
    have hlen : xs.length = f.kids.length := by rw [hk.len, List.length_map]
    have hlen2 : xs.length ≤ 2 := by rw [hlen]; exact f.kids_len
    have hx0 : xs ≠ [] := fun e => f.kids_ne hl (List.length_eq_zero_iff.mp (by rw [← hlen, e]; rfl))
    refine ⟨_, rfl, a, _, _, _, rfl, rfl, ha, at0, (by rfl : scal (V.str f.tag) (V.str "letter") = true), _, rfl, ?_⟩
    rw [Fm.tag_ne hl]
    refine iteF ?_
    refine ⟨_, rfl, a, _, _, _, rfl, rfl, ha, at0, (by show 1 ≤ sizeLine; decide), fun p hp => ?_⟩
    refine ⟨_, rfl, 1, rfl, a, _, rfl, (Gx.new hp : Gr _ _).sqT ha, ?_, fun c hc => ?_⟩
    · rw [show HT.sIx (V.str f.tag :: xs).length 0 (some 1) = 1 from (HT.sIx_nat _ 0 1).trans (by rw [List.length_cons]; omega)]
      exact fun z => absurd z.1 (by decide)
    have ec : cutV (V.str f.tag :: xs) (some 1) none = xs := by
      unfold cutV
      rw [show HT.sIx (V.str f.tag :: xs).length 0 (some 1) = 1 from (HT.sIx_nat _ 0 1).trans (by rw [List.length_cons]; omega), HT.sIx_none]
      show List.take ((xs.length + 1) - 1) xs = xs
      exact List.take_of_length_le (by omega)
    rw [ec]
    have gp : Gr H (upd H p (.tup [.str f.tag])) := Gx.new hp
    have gc : Gr H (upd (upd H p (.tup [.str f.tag])) c (.tup xs)) := gp.trans (Gx.new hc)
    refine ⟨c, rfl, ⟨xs, SqT.of upd_same⟩, fun D hD => ?_⟩
    have hpD : ∀ H', Gr (upd (upd H p (.tup [.str f.tag])) c (.tup xs)) H' → H' p = some (.tup [.str f.tag]) := fun H' g => g.tup p _ (by rw [upd_ne (ne_of_none (upd_same (o := .tup [.str f.tag])) hc)]; exact upd_same)
    have hcD : ∀ H', Gr (upd (upd H p (.tup [.str f.tag])) c (.tup xs)) H' → H' c = some (.tup xs) := fun H' g => g.tup c _ upd_same
    refine lc_tup (K := K) (a := c) (xs := xs) (fun i H' => Gr (upd (upd H p (.tup [.str f.tag])) c (.tup xs)) H' ∧ ∃ acc, H' D = some (.lst acc) ∧ acc.length = i ∧ DtAll K H' acc ((f.kids.take i).map fun g => (g.put t).d))
      ⟨Gx.new hD, [], upd_same, rfl, .nil⟩ (fun i H' _ ⟨g, _⟩ => SqT.of (hcD H' g)) ?_ ?_
    · rintro i x H' hi ⟨g, acc, e, el, ha'⟩
      have hik : i < f.kids.length := by rw [← hlen]; exact (List.getElem?_eq_some_iff.mp hi).1
      obtain ⟨x', e1, hx'⟩ := hk.get (i := i) (d := (f.kids[i]).d) (by rw [List.getElem?_map, List.getElem?_eq_getElem hik]; rfl)
      rw [hi] at e1; cases e1
      have hm : f.kids[i] ∈ f.kids := List.getElem_mem hik
      have hd := Fm.kids_depth hm
      have gH : Gr H H' := gc.trans g
      refine ⟨rfl, _, rfl, _, rfl, x, d, f.kids[i], t, rfl, gH.dt hx', by omega, ⟨N0, hT.gx gH (fun z => nomatch z)⟩, fun u H2 g2 hu => ?_⟩
      refine ⟨acc, g2.lst e (fun z => nomatch z), szlt (m := 2) (by omega) (by omega), ((g.trans g2).drop (S := []) (S' := [D]) (Gx.set (g2.lst e (fun z => nomatch z)) rfl) ?_), acc ++ [u], upd_same, by rw [List.length_append, el]; rfl, ?_⟩
      · intro z hz
        rw [List.mem_singleton.mp hz]
        exact .inr hD
      · have e2 : f.kids.take (i + 1) = f.kids.take i ++ [f.kids[i]] := by rw [List.take_succ, List.getElem?_eq_getElem hik]; rfl
        rw [e2, List.map_append]
        have gs : Gx [D] H2 (upd H2 D (.lst (acc ++ [u]))) := Gx.set (g2.lst e (fun z => nomatch z)) rfl
        exact DtAll.app (gs.dts (g2.dts ha')) (.cons (gs.dt hu) .nil)
    · rintro H' ⟨g, acc, e, el, ha'⟩
      have ek : f.kids.take xs.length = f.kids := List.take_of_length_le (by omega)
      rw [ek] at ha'
      refine ⟨D, acc, rfl, .inl ⟨SqL.of e, fun l hl' => ?_⟩⟩
      have gl : Gr H' (upd H' l (.tup acc)) := Gx.new hl'
      have hp2 : (upd H' l (.tup acc)) p = some (.tup [.str f.tag]) := gl.tup p _ (hpD H' g)
      refine ⟨p, l, _, _, rfl, rfl, SqT.of hp2, SqT.of upd_same, List.cons_ne_nil _ _, szle (m := 3) (by rw [List.length_singleton]; omega) (by omega), fun e0 => ?_, fun _ r hr2 => ?_⟩
      · rw [e0] at el; exact absurd (List.length_eq_zero_iff.mp el.symm) hx0
      · have gr2 : Gr (upd H' l (.tup acc)) (upd (upd H' l (.tup acc)) r (.tup ([.str f.tag] ++ acc))) := Gx.new hr2
        refine q _ _ (((gc.trans g).trans gl).trans gr2) ?_
        show Dt K _ _ (f.put t).d
        rw [Fm.put_node t hl]
        exact .tup (SqT.of upd_same) (.cons (.str _) (gr2.dts (gl.dts ha')))
theorem ok_Lput (B : Bn mg) (D : Df K mg "_law_put" s_Lput ["_law_formula", "_law_table"]) : ∀ n : Nat, Cl CX0 P w K mg base n "_law_put" (sp_Lput K n)
  | 0 => D.none fun vs H Q E ⟨_, _, f, _, _, _, h, _⟩ => by have := f.depth_pos; omega
  | n + 1 => st_Lput B D (ok_Lput B D n)
abbrev N_Lsame : List Str := ["_law_actual", "_law_expected", "_law_k"]
theorem sc_Lsame : FnScope N_Lsame ["_law_actual", "_law_expected"] (defScope s_Lsame) := ⟨rfl, rfl, rfl, by decide +kernel, rfl, by decide +kernel, by decide +kernel⟩
/-- both are the same data: it says so -/
def sp_Lsame (K : PySem.W.Frag) (n : Nat) : Sp := fun vs H Q _ => ∃ (x y : V) (d : PyData), vs = [x, y] ∧ Dt K H x d ∧ Dt K H y d ∧ d.depth < n ∧ fine d = true ∧ Q (.bl true) H
theorem st_Lsame {n : Nat} (B : Bn mg) (D : Df K mg "_law_same" s_Lsame ["_law_actual", "_law_expected"]) (c_Lsame : Cl CX0 P w K mg base n "_law_same" (sp_Lsame K n)) : Cl CX0 P w K mg base (n + 1) "_law_same" (sp_Lsame K (n + 1)) := by
  refine D.ok sc_Lsame (fun vs H Q E h => ?_) (fun f cdv A outer s H vs Q E hr h => ?_)
  · obtain ⟨x, y, d, rfl, _⟩ := h
    rfl
  obtain ⟨x, y, d, rfl, hx, hy, hn, hz, q⟩ := h
  refine ⟨_, (pss_cons (ps_if (pt_val (pe_callB call_isi (by rfl) B.isinstance (by decide +kernel) (pa_cons (pv 1) (pa_cons (pe_bltn (v := .ty "tuple") (u := .type "tuple") (by rfl) B.tuple (by decide +kernel) rfl) pa_nil))))
    (pss_cons (ps_if (PW.pt (pw_or (pt_not (pt_val (pe_callB call_isi (by rfl) B.isinstance (by decide +kernel) (pa_cons (pv 0) (pa_cons (pe_bltn (v := .ty "tuple") (u := .type "tuple") (by rfl) B.tuple (by decide +kernel) rfl) pa_nil))))) (pw_or1 (pt_cmpR op_ne (pe_callB call_len_seq (by rfl) B.len PySem.boot_len (pa_cons (pv 0) pa_nil)) (pe_callB call_len_seq (by rfl) B.len PySem.boot_len (pa_cons (pv 1) pa_nil)) (nomark _)))))
    (pss_one (ps_ret pe_bl))
    pss_nil)
  (pss_cons (ps_for PassesOwn.never rfl (pi_range1 (by rfl) B.range (pa_cons (pe_callB call_len_seq (by rfl) B.len PySem.boot_len (pa_cons (pv 1) pa_nil)) pa_nil)) (pg_name (i := 2) sc_Lsame.nd rfl (by first | exact Or.inl rfl | exact Or.inr rfl))
    (pss_one (ps_if (pt_not (pt_val (pc c_Lsame hr (by omega) rfl ps0 (pa_cons (pe_ix ix_tup (pv 0) (pv 2) (fun _ _ => rfl)) (pa_cons (pe_ix ix_tup (pv 1) (pv 2) (fun _ _ => rfl)) pa_nil)))))
    (pss_one (ps_ret pe_bl))
    pss_nil)))
  (pss_one (ps_ret pe_bl))))
    pss_nil)
  (pss_cons (ps_if (pt_cmpR op_isN (pv 1) pe_non (nomark _))
    (pss_one (ps_ret (pe_cmpR op_isN (pv 0) pe_non (nomark _))))
    pss_nil)
  (pss_cons (ps_if (pt_val (pe_callB call_isi (by rfl) B.isinstance (by decide +kernel) (pa_cons (pv 1) (pa_cons (pe_bltn (v := .ty "bool") (u := .type "bool") (by rfl) B.bool (by decide +kernel) rfl) pa_nil))))
    (pss_one (ps_ret (pe_and (pe_callB call_isi (by rfl) B.isinstance (by decide +kernel) (pa_cons (pv 0) (pa_cons (pe_bltn (v := .ty "bool") (u := .type "bool") (by rfl) B.bool (by decide +kernel) rfl) pa_nil))) (pe_one (pe_cmpR op_eq (pv 0) (pv 1) (nomark _))))))
    pss_nil)
  (pss_cons (ps_if (pt_val (pe_callB call_isi (by rfl) B.isinstance (by decide +kernel) (pa_cons (pv 1) (pa_cons (pe_bltn (v := .ty "int") (u := .type "int") (by rfl) B.int (by decide +kernel) rfl) pa_nil))))
    (pss_one (ps_ret (pe_and (pe_callB call_isi (by rfl) B.isinstance (by decide +kernel) (pa_cons (pv 0) (pa_cons (pe_bltn (v := .ty "int") (u := .type "int") (by rfl) B.int (by decide +kernel) rfl) pa_nil))) (pe_and (pe_not (pe_callB call_isi (by rfl) B.isinstance (by decide +kernel) (pa_cons (pv 0) (pa_cons (pe_bltn (v := .ty "bool") (u := .type "bool") (by rfl) B.bool (by decide +kernel) rfl) pa_nil)))) (pe_one (pe_cmpR op_eq (pv 0) (pv 1) (nomark _)))))))
    pss_nil)
  (pss_one (ps_ret (pe_and (pe_callB call_isi (by rfl) B.isinstance (by decide +kernel) (pa_cons (pv 0) (pa_cons (pe_bltn (v := .ty "str") (u := .type "str") (by rfl) B.str (by decide +kernel) rfl) pa_nil))) (pe_one (pe_cmpR op_eq (pv 0) (pv 1) (nomark _)))))))))), ?_⟩
  have kt : ∀ {a b : String} {r : Bool}, kitB a b = some r → PySem.W.kitOne K (.type a) (.type b) = some r := fun h => h
  cases d with
  | none =>
    cases hx; cases hy
    refine ⟨_, rfl, _, _, _, _, false, rfl, .ty "tuple", .base .non, kt (by decide +kernel), _, rfl, iteF ?_⟩
    exact ⟨_, rfl, rfl, _, rfl, iteT ⟨_, rfl, rfl, q⟩⟩
  | bool b =>
    cases hx; cases hy
    refine ⟨_, rfl, _, _, _, _, false, rfl, .ty "tuple", .base (.bl b), kt (by decide +kernel), _, rfl, iteF ?_⟩
    refine ⟨_, rfl, rfl, _, rfl, iteF ?_⟩
    refine ⟨_, rfl, _, _, _, _, true, rfl, .ty "bool", .base (.bl b), kt (by decide +kernel), _, rfl, iteT ?_⟩
    refine ⟨_, rfl, _, _, _, _, true, rfl, .ty "bool", .base (.bl b), kt (by decide +kernel), _, rfl, iteT ⟨_, rfl, _, rfl, by cases b <;> rfl, ?_⟩⟩
    rw [decide_eq_true rfl]; exact q
  | int i =>
    cases hx; cases hy
    refine ⟨_, rfl, _, _, _, _, false, rfl, .ty "tuple", .base (.int i), kt (by decide +kernel), _, rfl, iteF ?_⟩
    refine ⟨_, rfl, rfl, _, rfl, iteF ?_⟩
    refine ⟨_, rfl, _, _, _, _, false, rfl, .ty "bool", .base (.int i), kt (by decide +kernel), _, rfl, iteF ?_⟩
    refine ⟨_, rfl, _, _, _, _, true, rfl, .ty "int", .base (.int i), kt (by decide +kernel), _, rfl, iteT ?_⟩
    refine ⟨_, rfl, _, _, _, _, true, rfl, .ty "int", .base (.int i), kt (by decide +kernel), _, rfl, iteT ⟨_, rfl, _, _, _, _, false, rfl, .ty "bool", .base (.int i), kt (by decide +kernel), _, rfl, _, rfl, iteT ⟨_, rfl, _, rfl, rfl, ?_⟩⟩⟩
    rw [decide_eq_true rfl]; exact q
  | str z =>
    cases hx; cases hy
    refine ⟨_, rfl, _, _, _, _, false, rfl, .ty "tuple", .base (.str z), kt (by decide +kernel), _, rfl, iteF ?_⟩
    refine ⟨_, rfl, rfl, _, rfl, iteF ?_⟩
    refine ⟨_, rfl, _, _, _, _, false, rfl, .ty "bool", .base (.str z), kt (by decide +kernel), _, rfl, iteF ?_⟩
    refine ⟨_, rfl, _, _, _, _, false, rfl, .ty "int", .base (.str z), kt (by decide +kernel), _, rfl, iteF ?_⟩
    refine ⟨_, rfl, _, _, _, _, true, rfl, .ty "str", .base (.str z), kt (by decide +kernel), _, rfl, iteT ⟨_, rfl, _, rfl, rfl, ?_⟩⟩
    rw [decide_eq_true rfl]; exact q
  | list _ => cases hx
  | dict _ => cases hx
  | tuple ds =>
    obtain ⟨a, xs, rfl, ha, hxs⟩ := hx.tupI
    obtain ⟨b, ys, rfl, hb, hys⟩ := hy.tupI
    have lx := hxs.len
    have ly := hys.len
    have hdep : PyData.depthAll ds + 1 < n + 1 := by
      rw [show PyData.depth (.tuple ds) = PyData.depthAll ds + 1 by simp only [PyData.depth]] at hn
      exact hn
    obtain ⟨hw, hz⟩ := fine_tup hz
    refine ⟨_, rfl, _, _, _, _, true, rfl, .ty "tuple", tyx_tup hb, kt (by decide +kernel), _, rfl, iteT ?_⟩
    refine ⟨_, rfl, _, _, _, _, true, rfl, .ty "tuple", tyx_tup ha, kt (by decide +kernel), _, rfl, iteF ?_⟩
    refine ⟨_, rfl, a, _, rfl, .inr ha, _, rfl, b, _, rfl, .inr hb, rfl, _, rfl, ?_⟩
    refine iteNS (by rw [lx, ly]) ?_
    refine ⟨_, rfl, b, _, rfl, .inr hb, _, rfl, by omega, by omega, for_range (lo := 0) (n := ((ys.length : Int)).toNat) (fun i σ H2 => H2 = H ∧ ∃ v, σ = [some (.ref a), some (.ref b), v]) ⟨rfl, _, rfl⟩ ?_ ?_⟩
    · rintro i σ H2 hi ⟨rfl, v, rfl⟩
      have hil : i < ds.length := by omega
      obtain ⟨x', ex, hx'⟩ := hxs.get (i := i) (d := ds[i]) (List.getElem?_eq_getElem hil)
      obtain ⟨y', ey, hy'⟩ := hys.get (i := i) (d := ds[i]) (List.getElem?_eq_getElem hil)
      have hm := depthAll_mem (List.getElem_mem hil)
      refine ⟨_, rfl, _, rfl, a, _, _, _, rfl, rfl, ha, by rw [Int.zero_add]; exact atI_nat ex, _, rfl, _, rfl, b, _, _, _, rfl, rfl, hb, by rw [Int.zero_add]; exact atI_nat ey, x', y', ds[i], rfl, hx', hy', by omega, hz _ (List.getElem_mem hil), _, rfl, iteF ⟨rfl, _, rfl⟩⟩
    · rintro σ H2 ⟨rfl, v, rfl⟩
      exact q
theorem ok_Lsame (B : Bn mg) (D : Df K mg "_law_same" s_Lsame ["_law_actual", "_law_expected"]) : ∀ n : Nat, Cl CX0 P w K mg base n "_law_same" (sp_Lsame K n)
  | 0 => D.none fun vs H Q E ⟨_, _, d, _, _, _, h, _⟩ => by omega
  | n + 1 => st_Lsame B D (ok_Lsame B D n)
/-- all values of a table are plain -/
def TlOk (l : Tl) : Prop := ∀ x ∈ l, x.2.Pl ∧ x.2.depth ≤ 64
theorem look_mem {l : Tl} {n : Str} {g : Fm} (h : look l n = some g) : (n, g) ∈ l := by
  unfold look at h
  rw [Option.map_eq_some_iff] at h
  obtain ⟨p, h1, rfl⟩ := h
  have := List.find?_some h1
  have e : p.1 = n := by simpa using this
  rw [← e]
  exact List.mem_of_find?_eq_some h1
theorem mt_ok {p f : Fm} {l l' : Tl} {b : Bool} (h : mt p f l = (l', b)) (hn : (keysT l).Nodup) (hp : f.Pl) (hd : f.depth ≤ 64) (hl : TlOk l) : TlOk l' ∧ (keysT l').Nodup ∧ l'.length ≤ l.length + p.size := by
  obtain ⟨a, _, _, _, b, c⟩ := mt_keys p f l l' b h hn
  refine ⟨c (fun g => g.Pl ∧ g.depth ≤ 64) (fun g h ⟨x, y⟩ => ?_) (fun g ⟨x, y⟩ => ?_) ⟨hp, hd⟩ hl, a, b⟩
  · have e : (Fm.im g h).depth = max g.depth h.depth + 1 := rfl
    exact ⟨⟨x.l, by omega⟩, ⟨x.r, by omega⟩⟩
  · have e : (Fm.ng g).depth = g.depth + 1 := rfl
    exact ⟨x.ng, by omega⟩
/-- what a def does that takes a formula for an instance of a pattern -/
def MtP (K : PySem.W.Frag) (p f : Fm) (d : Addr) (l : Tl) (H : Hp) : Prop := f.Pl ∧ f.depth ≤ 64 ∧ Tk K H d l ∧ TlOk l ∧ (keysT l).Nodup ∧ l.length + p.size ≤ 30000
theorem kids_zip {p f : Fm} {i : Nat} (h1 : i < p.kids.length) (h2 : i < f.kids.length) : (p.kids.zip f.kids)[i]? = some (p.kids[i], f.kids[i]) := by
  rw [List.getElem?_eq_getElem (by rw [List.length_zip]; omega), List.getElem_zip]
theorem kid_pl {f g : Fm} (h : g ∈ f.kids) (hp : f.Pl) : g.Pl := by
  cases f with
  | lt n => cases h
  | ng p => rw [List.mem_singleton.mp h]; exact hp.ng
  | im p q =>
    rcases List.mem_cons.mp h with rfl | h
    · exact hp.l
    · rw [List.mem_singleton.mp h]; exact hp.r
/-- the sizes of what is still to be taken -/
def szL (l : List (Fm × Fm)) : Nat := (l.map fun x => x.1.size).sum
theorem szL_kids {p f : Fm} : szL (p.kids.zip f.kids) ≤ p.size := by
  cases p with
  | lt n => exact Nat.zero_le _
  | ng p =>
    cases f <;> simp [szL, Fm.kids, Fm.size]
  | im p q =>
    cases f <;> simp [szL, Fm.kids, Fm.size] <;> omega
abbrev N_Lmatches : List Str := ["_law_pattern", "_law_formula", "_law_found", "_law_k"]
theorem sc_Lmatches : FnScope N_Lmatches ["_law_pattern", "_law_formula", "_law_found"] (defScope s_Lmatches) := ⟨rfl, rfl, rfl, by decide +kernel, rfl, by decide +kernel, by decide +kernel⟩
def sp_Lmt (K : PySem.W.Frag) (n : Nat) : Sp := fun vs H Q _ => ∃ (v u : V) (d : Addr) (p f : Fm) (l : Tl), vs = [v, u, .ref d] ∧ FmV K H v p ∧ FmV K H u f ∧ p.depth ≤ n ∧ MtP K p f d l H ∧
  ∀ l' b, mt p f l = (l', b) → ∀ H' : Hp, Gx [d] H H' → Tk K H' d l' → Q (.bl b) H'
theorem st_Lmt {n : Nat} (B : Bn mg) (D : Df K mg "_law_matches" s_Lmatches ["_law_pattern", "_law_formula", "_law_found"]) (c_Lmatches : Cl CX0 P w K mg base n "_law_matches" (sp_Lmt K n)) : Cl CX0 P w K mg base (n + 1) "_law_matches" (sp_Lmt K (n + 1)) := by
  refine D.ok sc_Lmatches (fun vs H Q E h => ?_) (fun f cdv A outer s H vs Q E hr h => ?_)
  · obtain ⟨v, u, d, p, f, l, rfl, _⟩ := h
    rfl
  obtain ⟨v, u, d, p, f, l, rfl, hp, hu, hn, ⟨hpl, hfd, hT, hlo, hnd, hsz⟩, q⟩ := h
  refine ⟨_, (pss_cons (ps_if (pt_cmpR op_eq (pe_ix ix_tup (pv 0) pe_int (fun _ _ => rfl)) pe_str (nomark _))
    (C8.pss_cut (ps_if (pt_cmp (pc_dnotin (hu_of hr) (pe_ix ix_tup (pv 0) pe_int (fun _ _ => rfl)) (pv 2)))
    (pss_one (ps_dput (hu_of hr) (pv 2) (pe_ix ix_tup (pv 0) pe_int (fun _ _ => rfl)) (pv 1) rfl))
    pss_nil)
  (pss_one (ps_ret (pe_cmpR (op_eqD hr.units) (pe_dget (hu_of hr) (pv 2) (pe_ix ix_tup (pv 0) pe_int (fun _ _ => rfl)) (fun _ _ => rfl)) (pv 1) (nomark _)))))
    pss_nil)
  (pss_cons (ps_if (pt_cmpR op_ne (pe_ix ix_tup (pv 0) pe_int (fun _ _ => rfl)) (pe_ix ix_tup (pv 1) pe_int (fun _ _ => rfl)) (nomark _))
    (pss_one (ps_ret pe_bl))
    pss_nil)
  (pss_cons (ps_for PassesOwn.never rfl (pi_range2 (by rfl) B.range (pa_cons pe_int (pa_cons (pe_callB call_len_seq (by rfl) B.len PySem.boot_len (pa_cons (pv 0) pa_nil)) pa_nil))) (pg_name (i := 3) sc_Lmatches.nd rfl (by first | exact Or.inl rfl | exact Or.inr rfl))
    (pss_one (ps_if (pt_not (pt_val (pc c_Lmatches hr (by omega) rfl ps0 (pa_cons (pe_ix ix_tup (pv 0) (pv 3) (fun _ _ => rfl)) (pa_cons (pe_ix ix_tup (pv 1) (pv 3) (fun _ _ => rfl)) (pa_cons (pv 2) pa_nil))))))
    (pss_one (ps_ret pe_bl))
    pss_nil)))
  (pss_one (ps_ret pe_bl))))), ?_⟩
  cases hl : p.isLt with
  | true =>
    cases p with
    | lt x =>
      obtain ⟨a, rfl, ha⟩ := fm_lt hp
      obtain ⟨kvs, h1, h2, h3⟩ := hT.ex
      have hkl := tk_len h2
      refine ⟨_, rfl, a, _, _, _, rfl, rfl, ha, rfl, (by decide : scal (V.str "letter") (V.str "letter") = true), _, rfl, ?_⟩
      refine iteT ?_
      refine ⟨fun σ' H' => σ' = [some (.ref a), some u, some (.ref d), none] ∧ ∃ l1 g, Gx [d] H H' ∧ Tk K H' d l1 ∧ look l1 x = some g ∧ g.Pl ∧ g.depth ≤ 64 ∧ mt (.lt x) f l = (l1, decide (g = f)), ?_, ?_⟩
      · refine ⟨_, rfl, a, _, _, _, rfl, rfl, ha, rfl, _, rfl, d, _, rfl, DGet.k (k := Sum.inr x) h1, _, rfl, ?_⟩
        rcases tk_val h2 h3 x with ⟨e1, e2⟩ | ⟨g, u', e1, e2, hg⟩
        · rw [e2]
          have T2 := Tk.app (f := f) (v := u) h1 h2 h3 e1 hu
          have g2 : Gx [d] H (upd H d (.dK (putK kvs (.inr x) u))) := Gx.set h1 rfl
          refine iteT ⟨_, rfl, _, rfl, _, rfl, a, _, _, _, rfl, rfl, ha, rfl, d, _, rfl, DPut.k (k := Sum.inr x) h1 (szlt (m := 30000) (by have : (Fm.lt x).size = 1 := rfl; omega) (by omega)), ?_⟩
          refine ⟨rfl, _, f, g2, T2, ?_, hpl, hfd, by unfold mt; rw [e1]; simp⟩
          have : ∀ l : Tl, look l x = none → look (l ++ [(x, f)]) x = some f := by
            intro l
            induction l with
            | nil => intro _; simp [look]
            | cons y l ih =>
              intro h
              rw [look_cons] at h
              rw [List.cons_append, look_cons]
              by_cases hy : y.1 = x
              · rw [if_pos hy] at h; cases h
              · rw [if_neg hy] at h ⊢; exact ih h
          exact this l e1
        · rw [e2]
          have hok := hlo _ (look_mem e1)
          exact iteF ⟨rfl, l, g, Gx.refl, hT, e1, hok.1, hok.2, by unfold mt; rw [e1]⟩
      rintro σ' H' ⟨rfl, l1, g, g1, T1, e1, gp, gd, em⟩
      obtain ⟨kvs1, k1, k2, k3⟩ := T1.ex
      rcases tk_val k2 k3 x with ⟨e2, _⟩ | ⟨g', u', e2, e3, hg⟩
      · rw [e1] at e2; cases e2
      rw [e1] at e2
      cases e2
      refine ⟨_, rfl, _, rfl, a, _, _, _, rfl, rfl, g1.sqT ha, rfl, d, u', rfl, ?_, _, rfl, g.d, f.d, Dt.dp _ _ hg, Dt.dp _ _ (g1.dt hu), Fm.d_shaped gp gd, Fm.d_shaped hpl hfd, ?_⟩
      · rw [← e3]; exact DGet.k (k := Sum.inr x) k1
      rw [Fm.d_eqv]
      exact q _ _ em H' g1 T1
    | ng p => cases hl
    | im p q => cases hl
  | false =>
    obtain ⟨a, xs, rfl, ha, hk⟩ := fm_node hp hl
    have hlen : xs.length = p.kids.length := by rw [hk.len, List.length_map]
    obtain ⟨a', xs', rfl, ha'⟩ := fm_tup hu
    refine ⟨_, rfl, a, _, _, _, rfl, rfl, ha, at0, (by rfl : scal (V.str p.tag) (V.str "letter") = true), _, rfl, ?_⟩
    rw [Fm.tag_ne hl]
    refine iteF ?_
    refine ⟨_, rfl, a, _, _, _, rfl, rfl, ha, at0, _, rfl, a', _, _, _, rfl, rfl, ha', at0, (by rfl : scal (V.str p.tag) (V.str f.tag) = true), _, rfl, ?_⟩
    by_cases ht : p.tag = f.tag
    · have hlf : f.isLt = false := by
        cases f with
        | lt n =>
          have := Fm.tag_ne hl
          rw [ht] at this
          simp [Fm.tag] at this
        | _ => rfl
      obtain ⟨a2, zs, ea, hz, hk2⟩ := fm_node hu hlf
      cases ea
      obtain ⟨hmt, hkl⟩ := mt_node hl ht l
      have hlen2 : zs.length = f.kids.length := by rw [hk2.len, List.length_map]
      have kl2 := p.kids_len
      rw [ht, decide_eq_true rfl]
      refine iteF ?_
      refine ⟨_, rfl, a, _, rfl, .inr ha, 1, ((V.str p.tag :: xs).length : Int), rfl, by rw [List.length_cons]; omega, for_range (lo := 1) (n := (((V.str p.tag :: xs).length : Int) - 1).toNat) (fun i σ H' => ∃ v3 li, σ = [some (.ref a), some (.ref a'), some (.ref d), v3] ∧ Gx [d] H H' ∧ Tk K H' d li ∧ TlOk li ∧ (keysT li).Nodup ∧ li.length + szL ((p.kids.zip f.kids).drop i) ≤ 30000 ∧ mts ((p.kids.zip f.kids).drop i) li = mt p f l)
        ⟨none, l, rfl, Gx.refl, hT, hlo, hnd, by have := szL_kids (p := p) (f := f); rw [List.drop_zero]; omega, hmt.symm⟩ ?_ ?_⟩
      · rintro i σ H4 hi ⟨v3, li, rfl, g4, Tl4, ok4, nd4, sz4, m4⟩
        rw [List.length_cons] at hi
        have hi1 : i < p.kids.length := by omega
        have hi2 : i < f.kids.length := by omega
        obtain ⟨x, ex, hx⟩ := hk.get (i := i) (d := (p.kids[i]).d) (by rw [List.getElem?_map, List.getElem?_eq_getElem hi1]; rfl)
        obtain ⟨z, ez, hz'⟩ := hk2.get (i := i) (d := (f.kids[i]).d) (by rw [List.getElem?_map, List.getElem?_eq_getElem hi2]; rfl)
        have hm1 : p.kids[i] ∈ p.kids := List.getElem_mem hi1
        have hm2 : f.kids[i] ∈ f.kids := List.getElem_mem hi2
        have hd1 := Fm.kids_depth hm1
        have hd2 := Fm.kids_depth hm2
        have edr : (p.kids.zip f.kids).drop i = (p.kids[i], f.kids[i]) :: (p.kids.zip f.kids).drop (i + 1) := by
          rw [List.drop_eq_getElem_cons (by rw [List.length_zip]; omega), List.getElem_zip]
        rw [edr] at sz4 m4
        have esz : szL ((p.kids[i], f.kids[i]) :: (p.kids.zip f.kids).drop (i + 1)) = (p.kids[i]).size + szL ((p.kids.zip f.kids).drop (i + 1)) := rfl
        rw [esz] at sz4
        have ix : ∀ {y : V} {ys : List V} {t : V}, ys[i]? = some y → atI (t :: ys) (1 + (i : Int)) = some y := fun {y ys t} e => by
          rw [show (1 + (i : Int)) = ((i + 1 : Nat) : Int) by omega]; exact atI_nat e
        refine ⟨_, rfl, _, rfl, a, _, _, _, rfl, rfl, g4.sqT ha, ix ex, _, rfl, _, rfl, a', _, _, _, rfl, rfl, g4.sqT hz, ix ez, _, rfl, x, z, d, p.kids[i], f.kids[i], li, rfl, g4.dt hx, g4.dt hz', by omega, ⟨kid_pl hm2 hpl, by omega, Tl4, ok4, nd4, by omega⟩, fun l' b em H6 g6 T6 => ⟨b, rfl, ?_⟩⟩
        obtain ⟨ok6, nd6, len6⟩ := mt_ok em nd4 (kid_pl hm2 hpl) (by omega) ok4
        have m4' : (match mt p.kids[i] f.kids[i] li with | (l1, true) => mts ((p.kids.zip f.kids).drop (i + 1)) l1 | (l1, false) => (l1, false)) = mt p f l := m4
        rw [em] at m4'
        have g46 : Gx [d] H H6 := g4.trans g6
        cases b with
        | false => exact iteT (q l' false m4'.symm H6 g46 T6)
        | true => exact iteF ⟨_, l', rfl, g46, T6, ok6, nd6, by omega, m4'⟩
      · rintro σ H4 ⟨v3, li, rfl, g4, Tl4, _, _, _, m4⟩
        have ed : (p.kids.zip f.kids).drop (((V.str p.tag :: xs).length : Int) - 1).toNat = [] := List.drop_eq_nil_of_le (by rw [List.length_zip, List.length_cons]; omega)
        rw [ed] at m4
        exact q li true m4.symm H4 g4 Tl4
    · rw [decide_eq_false (fun e => ht (by injection e))]
      exact iteT (q l false (mt_tag hl ht l) H Gx.refl hT)
theorem ok_Lmt (B : Bn mg) (D : Df K mg "_law_matches" s_Lmatches ["_law_pattern", "_law_formula", "_law_found"]) : ∀ n : Nat, Cl CX0 P w K mg base n "_law_matches" (sp_Lmt K n)
  | 0 => D.none fun vs H Q E ⟨_, _, _, p, _, _, _, _, _, h, _⟩ => by have := p.depth_pos; omega
  | n + 1 => st_Lmt B D (ok_Lmt B D n)
structure Tb3 (T1 T2 T3 : Addr) (H : Hp) : Prop where
  t1 : GxR.TabG H T1
  t2 : GxR.TabG H T2
  t3 : GxR.TabG H T3
theorem Tb3.gx {T1 T2 T3 : Addr} {S : List Addr} {H H' : Hp} (t : Tb3 T1 T2 T3 H) (g : Gx S H H') : Tb3 T1 T2 T3 H' := ⟨g.tab _ t.t1, g.tab _ t.t2, g.tab _ t.t3⟩
def spLaw (T1 T2 T3 : Addr) (K : PySem.W.Frag) : Sp := fun vs H Q _ => ∃ (a : Addr) (ns : List Int), vs = [.ref a] ∧ SqL K H a (ns.map V.int) ∧ ns.length ≤ 63 ∧ GxR.TabG H T1 ∧ GxR.TabG H T2 ∧ GxR.TabG H T3 ∧ ∀ H', Q (.bl true) H'
abbrev N_law : List Str := ["_law_script", "_law_box_here", "_law_k", "_law_one", "_law_other", "_law_table", "_law_name", "_law_known", "_law_due", "_law_found", "_law_same_here", "_law_names_here", "_law_mine", "_law_theirs"]
theorem sc_law : FnScope N_law ["_law_script"] (defScope s_law) := ⟨rfl, rfl, rfl, by decide +kernel, rfl, by decide +kernel, by decide +kernel⟩
theorem ok_law {T1 T2 T3 f : Addr} {fd : FuncData} (B : Bn mg) (F : Fun K "law" "law" s_law f fd) (c_Lbox : Cl CX0 P w K mg base 3 "_law_box" (sp_Lbox K)) (c_Ldraw : Cl CX0 P w K mg base 1 "_law_draw" sp_Ldraw) (c_Lany : Cl CX0 P w K mg base 14 "_law_any" (sp_Lany K 13)) (c_Lnames : Cl CX0 P w K mg base 61 "_law_names" (sp_Lnames K 60)) (c_Lput : Cl CX0 P w K mg base 64 "_law_put" (sp_Lput K 64))
    (c_Lbind : Cl CX0 P w K mg base 63 "_law_bind" (sp_Lbd K 61)) (c_unify : Cl CX0 P w K mg base 189 "unify" (sp_un T1 T2 T3 K 61)) (c_Lsame : Cl CX0 P w K mg base 65 "_law_same" (sp_Lsame K 65)) (c_Lsolved : Cl CX0 P w K mg base 62 "_law_solved" (sp_Lso K 61)) (c_Lmatches : Cl CX0 P w K mg base 64 "_law_matches" (sp_Lmt K 64)) :
    FnOk P w K mg base CX0 195 f fd ["_law_script"] (spLaw T1 T2 T3 K) := by
  refine F.ok (k := 194) sc_law (fun vs H Q E h => ?_) (fun cdv A outer s H vs Q E hr h => ?_)
  · obtain ⟨a, ns, rfl, _⟩ := h
    rfl
  obtain ⟨a, ns, rfl, hS, hlen, hT1, hT2, hT3, q⟩ := h
  refine ⟨_, (pss_cons (ps_set (i := 1) sc_law.nd rfl (by first | exact Or.inl rfl | exact Or.inr rfl) (pc c_Lbox hr (by omega) rfl ps0 (pa_cons (pv 0) (pa_cons pe_int (pa_cons pe_int pa_nil)))))
  (pss_cons (ps_for PassesOwn.never rfl (pi_range1 (by rfl) B.range (pa_cons pe_int pa_nil)) (pg_name (i := 2) sc_law.nd rfl (by first | exact Or.inl rfl | exact Or.inr rfl))
    (pss_cons (ps_set (i := 3) sc_law.nd rfl (by first | exact Or.inl rfl | exact Or.inr rfl) (pc c_Lany hr (by omega) rfl ps0 (pa_cons (pv 1) (pa_cons pe_int (pa_cons pe_int pa_nil)))))
  (pss_cons (ps_set (i := 4) sc_law.nd rfl (by first | exact Or.inl rfl | exact Or.inr rfl) (pc c_Lany hr (by omega) rfl ps0 (pa_cons (pv 1) (pa_cons pe_int (pa_cons pe_int pa_nil)))))
  (C8.pss_cut (ps_if (pt_cmpR op_eq (pc c_Ldraw hr (by omega) rfl ps0 (pa_cons (pv 1) (pa_cons pe_int pa_nil))) pe_int (nomark _))
    (pss_cons (ps_set (i := 5) sc_law.nd rfl (by first | exact Or.inl rfl | exact Or.inr rfl) pe_dnewK)
  (pss_cons (ps_for PassesOwn.never rfl (pi_list (pc c_Lnames hr (by omega) rfl ps0 (pa_cons (pv 3) pa_nil))) (pg_name (i := 6) sc_law.nd rfl (by first | exact Or.inl rfl | exact Or.inr rfl))
    (pss_one (ps_if (pt_cmpR op_eq (pc c_Ldraw hr (by omega) rfl ps0 (pa_cons (pv 1) (pa_cons pe_int pa_nil))) pe_int (nomark _))
    (pss_one (ps_dput (hu_of hr) (pv 5) (pv 6) (pc c_Lany hr (by omega) rfl ps0 (pa_cons (pv 1) (pa_cons pe_int (pa_cons pe_int pa_nil)))) rfl))
    pss_nil)))
  (pss_one (ps_set (i := 4) sc_law.nd rfl (by first | exact Or.inl rfl | exact Or.inr rfl) (pc c_Lput hr (by omega) rfl ps0 (pa_cons (pv 3) (pa_cons (pv 5) pa_nil)))))))
    pss_nil)
  (pss_cons (ps_set (i := 7) sc_law.nd rfl (by first | exact Or.inl rfl | exact Or.inr rfl) pe_dnewK)
  (pss_cons (ps_set (i := 8) sc_law.nd rfl (by first | exact Or.inl rfl | exact Or.inr rfl) (pc c_Lbind hr (by omega) rfl ps0 (pa_cons (pv 3) (pa_cons (pv 4) (pa_cons (pv 7) pa_nil)))))
  (pss_cons (ps_set (i := 9) sc_law.nd rfl (by first | exact Or.inl rfl | exact Or.inr rfl) (pc c_unify hr (by omega) rfl ps0 (pa_cons (pv 3) (pa_cons (pv 4) pa_nil))))
  (pss_cons (ps_if (pt_not (pt_val (pv 8)))
    (pss_cons (ps_if (pt_cmpR op_notN (pv 9) pe_non (nomark _))
    (pss_one (ps_ret pe_bl))
    pss_nil)
  (pss_one ps_continue))
    pss_nil)
  (pss_cons (ps_if (pt_not (pt_val (pe_callB call_isi (by rfl) B.isinstance (by decide +kernel) (pa_cons (pv 9) (pa_cons (pe_bltn (v := .ty "dict") (u := .type "dict") (by rfl) B.dict (by decide +kernel) rfl) pa_nil)))))
    (pss_one (ps_ret pe_bl))
    pss_nil)
  (pss_cons (ps_set (i := 10) sc_law.nd rfl (by first | exact Or.inl rfl | exact Or.inr rfl) (pc c_Lput hr (by omega) rfl ps0 (pa_cons (pv 3) (pa_cons (pv 9) pa_nil))))
  (pss_cons (ps_if (PW.pt (pw_or (pt_not (pt_val (pc c_Lsame hr (by omega) rfl ps0 (pa_cons (pc c_Lput hr (by omega) rfl ps0 (pa_cons (pv 4) (pa_cons (pv 9) pa_nil))) (pa_cons (pv 10) pa_nil))))) (pw_or1 (pt_not (pt_val (pc c_Lsame hr (by omega) rfl ps0 (pa_cons (pc c_Lput hr (by omega) rfl ps0 (pa_cons (pv 10) (pa_cons (pv 9) pa_nil))) (pa_cons (pv 10) pa_nil))))))))
    (pss_one (ps_ret pe_bl))
    pss_nil)
  (pss_cons (ps_set (i := 11) sc_law.nd rfl (by first | exact Or.inl rfl | exact Or.inr rfl) (pe_callB (cr_sortedT rfl) (by rfl) B.sorted (by decide +kernel) (pa_cons (pe_callTy (cr_setOfS rfl) (by rfl) B.set (by decide +kernel) (pa_cons (pe_op op_cat (pc c_Lnames hr (by omega) rfl ps0 (pa_cons (pv 3) pa_nil)) (pc c_Lnames hr (by omega) rfl ps0 (pa_cons (pv 4) pa_nil))) pa_nil)) pa_nil)))
  (pss_cons (ps_if (pt_cmpR op_gt (pe_callB call_len_seq (by rfl) B.len PySem.boot_len (pa_cons (pe_lock (pe_lc (own := [("_law_name", 6)]) rfl sc_law.nd (pi_keys (pv 9)) (blkOk_by (N := N_law) (sc := defScope s_law) (by decide +kernel)) (fun _ _ _ _ _ => (pg_name (i := 6) sc_law.nd rfl (by first | exact Or.inl rfl | exact Or.inr rfl))) (fun _ _ _ _ _ => (pts_one (pt_cmpR (op_notIn_seqK (K := K) rfl) (pv 6) (pv 11) rfl))) (fun _ _ _ _ _ => (pv 6)))) pa_nil)) pe_int (nomark _))
    (pss_one (ps_ret pe_bl))
    pss_nil)
  (pss_cons (ps_set (i := 12) sc_law.nd rfl (by first | exact Or.inl rfl | exact Or.inr rfl) (pc c_Lsolved hr (by omega) rfl ps0 (pa_cons (pe_tup (pa_cons pe_str (pa_cons (pe_ix ix_list (pv 11) pe_int (fun _ _ => rfl)) pa_nil))) (pa_cons (pv 7) pa_nil))))
  (pss_cons (ps_set (i := 13) sc_law.nd rfl (by first | exact Or.inl rfl | exact Or.inr rfl) (pc c_Lput hr (by omega) rfl ps0 (pa_cons (pe_tup (pa_cons pe_str (pa_cons (pe_ix ix_list (pv 11) pe_int (fun _ _ => rfl)) pa_nil))) (pa_cons (pv 9) pa_nil))))
  (pss_cons (ps_for PassesOwn.never rfl (pi_list (pe_slice sl_list (pv 11) (po_some pe_int) po_none)) (pg_name (i := 6) sc_law.nd rfl (by first | exact Or.inl rfl | exact Or.inr rfl))
    (pss_cons (ps_set (i := 12) sc_law.nd rfl (by first | exact Or.inl rfl | exact Or.inr rfl) (pe_tup (pa_cons pe_str (pa_cons (pc c_Lsolved hr (by omega) rfl ps0 (pa_cons (pe_tup (pa_cons pe_str (pa_cons (pv 6) pa_nil))) (pa_cons (pv 7) pa_nil))) (pa_cons (pv 12) pa_nil)))))
  (pss_one (ps_set (i := 13) sc_law.nd rfl (by first | exact Or.inl rfl | exact Or.inr rfl) (pe_tup (pa_cons pe_str (pa_cons (pc c_Lput hr (by omega) rfl ps0 (pa_cons (pe_tup (pa_cons pe_str (pa_cons (pv 6) pa_nil))) (pa_cons (pv 9) pa_nil))) (pa_cons (pv 13) pa_nil))))))))
  (pss_one (ps_if (PW.pt (pw_or (pt_not (pt_val (pc c_Lmatches hr (by omega) rfl ps0 (pa_cons (pv 13) (pa_cons (pv 12) (pa_cons pe_dnewK pa_nil)))))) (pw_or1 (pt_not (pt_val (pc c_Lmatches hr (by omega) rfl ps0 (pa_cons (pv 12) (pa_cons (pv 13) (pa_cons pe_dnewK pa_nil)))))))))
    (pss_one (ps_ret pe_bl))
    pss_nil))))))))))))))))))
  (pss_one (ps_ret pe_bl)))), ?_⟩
  have kt : ∀ {a b : String} {r : Bool}, kitB a b = some r → PySem.W.kitOne K (.type a) (.type b) = some r := fun h => h
  refine ⟨_, rfl, a, ns, 0, 63, rfl, hS, by decide, by decide, by decide, by decide, fun b H1 hb g1 B1 => ?_⟩
  obtain ⟨dg, B1⟩ := B1.named
  have TB1 : Tb3 T1 T2 T3 H1 := Tb3.gx ⟨hT1, hT2, hT3⟩ g1
  refine ⟨_, rfl, by decide, by decide, for_range (lo := 0) (n := 5) (fun i σ H' => ∃ w2 w3 w4 w5 w6 w7 w8 w9 w10 w11 w12 w13, σ = [some (.ref a), some (.ref b), w2, w3, w4, w5, w6, w7, w8, w9, w10, w11, w12, w13] ∧ BxD dg H' b ∧ Tb3 T1 T2 T3 H') ⟨none, none, none, none, none, none, none, none, none, none, none, none, rfl, B1, TB1⟩ ?_ ?_⟩
  rotate_left
  · rintro σ H2 ⟨_, _, _, _, _, _, _, _, _, _, _, _, rfl, _⟩
    exact q _
  rintro i σ H2 hi ⟨w2, w3, w4, w5, w6, w7, w8, w9, w10, w11, w12, w13, rfl, B2, TB2⟩
  refine ⟨_, rfl, b, dg, 12, 5, rfl, B2, by decide, by decide, by decide, by decide, fun v F1 H3 g3 B3 hv hs1 hl1 => ?_⟩
  refine ⟨_, rfl, b, dg, 12, 5, rfl, B3, by decide, by decide, by decide, by decide, fun u0 P0 H4 g4 B4 hu0 hs2 hl2 => ?_⟩
  have hv4 := g4.dt hv
  have z1 : F1.size ≤ 12 := by omega
  have l1 : ∀ y ∈ F1.lets, y ∈ L5 := hl1
  refine ⟨fun σ' H' => ∃ (u : V) (F2 : Fm) (w5 w6 : Option V), σ' = [some (.ref a), some (.ref b), some (.int (0 + (i : Int))), some v, some u, w5, w6, w7, w8, w9, w10, w11, w12, w13] ∧ Gx [b] H4 H' ∧ BxD dg H' b ∧ FmV K H' u F2 ∧ Drn F1 F2 ∧ F2.size ≤ 100 ∧ F2.depth ≤ 30, ?_, ?_⟩
  · refine ⟨_, rfl, b, dg, 2, rfl, by decide, B4, fun r5 H5 a0 a1 g5 B5 => ⟨rfl, _, rfl, ?_⟩⟩
    by_cases c0 : r5 = 0
    case neg =>
      rw [decide_eq_false (fun e : V.int r5 = V.int 0 => c0 (by injection e))]
      exact iteF ⟨u0, P0, w5, w6, rfl, g5, B5, g5.dt hu0, drn_apart z1 (by omega) fun y hy => (List.mem_append.mp hy).elim (l1 y) (hl2 y), by omega, by have := P0.depth_le; omega⟩
    subst c0
    rw [decide_eq_true rfl]
    refine iteT fun d hd => ?_
    generalize z6 : upd H5 d _ = H6
    obtain ⟨g6, e6⟩ := hA_gr z6 hd
    have e6 : H6 d = some (.dK []) := e6
    have ndb := B5.ne hd
    have B6 := B5.gr g6
    have bxd : ∀ {H4 H5 : Hp}, BxD dg H4 b → Gx [d] H4 H5 → BxD dg H5 b := fun B g => B.gx g fun z m => by rw [List.mem_singleton.mp m]; exact ndb
    have hv6 := g6.dt (g5.dt hv4)
    refine ⟨_, rfl, v, F1, rfl, hv6, by have := F1.depth_le; omega, by omega, fun c xs H7 g7 e7 _ _ _ hxl => ?_⟩
    have d7 : H7 d = some (.dK []) := gr_some g7 e6 fun ps e => nomatch e
    have B7 := B6.gr g7
    have ncb : c ≠ b := fun e => by
      obtain ⟨at_, ds, h1, _⟩ := B7.ex
      rw [e, h1] at e7
      injection e7 with e7
      injection e7 with e7
      cases xs with
      | nil => cases e7
      | cons x xs =>
        have := (List.cons.inj e7).1
        cases this
    have ncd : c ≠ d := fun e => by rw [e, d7] at e7; cases e7
    refine ⟨c, rfl, ⟨_, SqL.of e7⟩, for_list (K := K) (a := c) (xs := xs.map V.str) (fun j σ H' => ∃ w6 N t, σ = [some (.ref a), some (.ref b), some (.int (0 + (i : Int))), some v, some u0, some (.ref d), w6, w7, w8, w9, w10, w11, w12, w13] ∧ Gx [b, d] H7 H' ∧ BxD dg H' b ∧ Tb K H' d N t ∧ N ≤ j ∧ ∀ m g, t m = some g → g.size ≤ 3 ∧ ∀ y ∈ g.lets, y ∈ L5) ⟨w6, 0, _, rfl, Gx.refl, B7, Tb.new d7, Nat.zero_le _, fun m g h => nomatch h⟩ (fun j σ H' _ ⟨_, _, _, _, g, _⟩ => SqL.of (g.lst e7 (by simp [ncb, ncd]))) ?_ ?_⟩
    · rintro j x σ H8 hj ⟨w6, N, t, rfl, g8, B8, T8, hN, ht⟩
      rw [List.getElem?_map] at hj
      obtain ⟨nm, enm, rfl⟩ := Option.map_eq_some_iff.mp hj
      have hjl := (List.getElem?_eq_some_iff.mp enm).1
      refine ⟨_, rfl, b, dg, 3, rfl, by decide, B8, fun r9 H9 b0 b1 g9 B9 => ⟨rfl, _, rfl, ?_⟩⟩
      by_cases c9 : r9 = 0
      · subst c9
        rw [decide_eq_true rfl]
        refine iteT ⟨_, rfl, b, dg, 3, 5, rfl, B9, by decide, by decide, by decide, by decide, fun v1 f1 HA gA BA hv1 hs1 hl1 => ?_⟩
        have TA := (T8.gx g9 (by simp [ndb.1])).gx gA (by simp [ndb.1])
        obtain ⟨kv1, k1, k2, gB, TB⟩ := TA.dput nm hv1
        refine ⟨_, rfl, _, rfl, d, _, rfl, DPut.k (k := Sum.inr nm) k1 (szlt (m := 1000) (by omega) (by omega)), _, _, _, rfl, ((g8.trans (g9.mono (by simp))).trans (gA.mono (by simp))).trans (gB.mono (by simp)), bxd BA gB, TB, by omega, fun m g e => ?_⟩
        have e : (if m = nm then some f1 else t m) = some g := e
        by_cases z : m = nm
        · rw [if_pos z] at e; cases e; exact ⟨by omega, hl1⟩
        · rw [if_neg z] at e; exact ht m g e
      · rw [decide_eq_false (fun e : V.int r9 = V.int 0 => c9 (by injection e))]
        exact iteF ⟨_, N, t, rfl, g8.trans (g9.mono (by simp)), B9, T8.gx g9 (by simp [ndb.1]), by omega, ht⟩
    · rintro σ H8 ⟨w6, N, t, rfl, g8, B8, T8, hN, ht⟩
      have g48 : Gx [b] H4 H8 := (g5.trans (Gx.wk (g6.trans g7))).drop g8 fun z hz => by
        rcases List.mem_cons.mp hz with rfl | hz
        · exact .inl (List.mem_singleton_self _)
        · rw [List.mem_singleton.mp hz]; exact .inr (g5.dom _ hd)
      refine ⟨_, rfl, _, rfl, v, d, F1, t, rfl, g48.dt hv4, by have := F1.depth_le; omega, ⟨_, T8⟩, fun u9 H9 g9 hu9 => ?_⟩
      have ht3 : ∀ m g, t m = some g → g.size ≤ 3 := fun m g e => (ht m g e).1
      have ps := put_size ht3 F1
      have us := una_size F1
      have pd := put_dep2 (t := t) (fun m g e => Nat.le_trans g.depth_le (ht3 m g e)) F1
      have dl := F1.depth_le
      refine ⟨u9, F1.put t, _, _, rfl, g48.trans (Gx.wk g9), B8.gr g9, hu9, drn_put z1 ht3 fun y hy => ?_, by omega, by omega⟩
      rcases List.mem_append.mp hy with hy | hy
      · exact l1 y hy
      · rw [Fm.put_sb] at hy
        obtain ⟨x, hx, hyx⟩ := Fm.sb_lets.mp hy
        cases e : t x with
        | none => rw [e] at hyx; rw [List.mem_singleton.mp hyx]; exact l1 x hx
        | some g => rw [e] at hyx; exact (ht x g e).2 y hyx
  rintro σ' H5 ⟨u, F2, w5, w6, rfl, g5, B5, hu, DR, z2, d2⟩
  have hv5 := g5.dt hv4
  have TB5 := ((TB2.gx g3).gx g4).gx g5
  intro dk hdk
  generalize z6 : upd H5 dk _ = H6
  obtain ⟨g6, e6⟩ := hA_gr z6 hdk
  have e6 : H6 dk = some (.dK []) := e6
  have ndk := B5.ne hdk
  refine ⟨_, rfl, _, rfl, _, rfl, v, u, dk, F1, F2, rfl, g6.dt hv5, g6.dt hu, e6, DR.fit, DR.dn, DR.zn, fun r l S H7 g7 T7 U7 ht hf => ?_⟩
  have g57 : Gr H5 H7 := g6.drop g7 fun z hz => .inr (by rw [List.mem_singleton.mp hz]; exact hdk)
  have hv7 := g57.dt hv5
  have hu7 := g57.dt hu
  have TB7 := TB5.gx g57
  have B7 : BxD dg H7 b := B5.gr g57
  refine ⟨_, rfl, _, rfl, v, u, F1, F2, rfl, hv7, hu7, DR.fit, TB7.t1, TB7.t2, TB7.t3, (fun l' S' U' => DR.dn F1 _ S' (.inl .rfl) U'), (fun l' S' U' => DR.dn F2 _ S' (.inr .rfl) U'), DR.dn, fun H8 g8 no => ?_, fun d9 l1 S1 ys H8 g8 U1 sol hperm T9 => ?_⟩
  · cases r with
    | true => exact absurd ((ht rfl S).mp U7.self) (no S)
    | false =>
      refine ⟨_, rfl, _, rfl, iteT ⟨_, rfl, rfl, _, rfl, ite_f' (show (!decide (V.non = V.non)) = false by rw [decide_eq_true rfl]; rfl) ?_⟩⟩
      exact ⟨_, _, _, _, _, _, _, _, _, _, _, _, rfl, B7.gr g8, TB7.gx g8⟩
  cases r with
  | false => exact absurd ((sol S1).mp U1.self) (hf rfl S1)
  | true =>
    refine ⟨_, rfl, _, rfl, iteF ?_⟩
    have hv8 := g8.dt hv7
    have hu8 := g8.dt hu7
    obtain ⟨kv9, k1, k2, k3⟩ := T9.ex
    have epu := put_map U1 hperm
    have dA := DR.dn F1 l1 S1 (.inl .rfl) U1
    have eS : F1.sb S1 = F2.sb S1 := (sol S1).mp U1.self
    refine ⟨_, rfl, _, _, _, _, true, rfl, .ty "dict", .base (.dK k1), kt (by decide +kernel), _, rfl, iteF ?_⟩
    refine ⟨_, rfl, _, rfl, v, d9, F1, _, rfl, hv8, by have := F1.depth_le; omega, ⟨_, T9.tb⟩, fun uA HA gA huA => ?_⟩
    rw [epu] at huA
    have TA := T9.gx gA (fun m => nomatch m)
    refine ⟨_, rfl, _, rfl, u, d9, F2, _, rfl, gA.dt hu8, by omega, ⟨_, TA.tb⟩, fun uB HB gB huB => ?_⟩
    rw [epu, ← eS] at huB
    have TB9 := TA.gx gB (fun m => nomatch m)
    refine ⟨_, rfl, _, _, (F1.sb S1).d, rfl, huB, gB.dt huA, by rw [Fm.d_depth]; omega, Fm.d_fine _, _, rfl, iteF ?_⟩
    refine ⟨_, rfl, _, rfl, uA, d9, F1.sb S1, _, rfl, gB.dt huA, by omega, ⟨_, TB9.tb⟩, fun uC HC gC huC => ?_⟩
    rw [epu, U1.twice] at huC
    have TC := TB9.gx gC (fun m => nomatch m)
    refine ⟨_, rfl, _, _, (F1.sb S1).d, rfl, huC, gC.dt (gB.dt huA), by rw [Fm.d_depth]; omega, Fm.d_fine _, _, rfl, iteF ?_⟩
    have g8C := (gA.trans gB).trans gC
    refine ⟨_, rfl, v, F1, rfl, g8C.dt hv8, by have := F1.depth_le; omega, by omega, fun c1 xs1 HD gD eD _ _ m1 n1 => ?_⟩
    refine ⟨_, rfl, u, F2, rfl, gD.dt (g8C.dt hu8), by omega, by omega, fun c2 xs2 HE gE eE _ _ m2 n2 => ?_⟩
    refine ⟨c1, c2, _, _, rfl, rfl, gE.lst eD (fun m => nomatch m), eE, szle (m := 2000) (by rw [List.length_map, List.length_map]; omega) (by omega), fun pc hpc => ?_⟩
    generalize zF : upd HE pc _ = HF
    obtain ⟨gF, eF⟩ := hA_gr zF hpc
    rw [← List.map_append] at eF
    refine ⟨pc, xs1 ++ xs2, rfl, SqL.of eF, by unfold scanBound; rw [List.length_append]; omega, fun sa sl hsa hsl hsm => ?_⟩
    refine ⟨sa, sl, rfl, upd_same, szle (m := 2000) (by rw [List.length_append] at hsl; omega) (by omega), fun NS pn pm hs nd hpn => ?_⟩
    generalize zg1 : upd HF sa _ = HF2 at hpn ⊢
    have gnew : Gr HF HF2 := by rw [← zg1]; exact Gx.new hsa
    generalize zg2 : upd HF2 pn _ = HG
    obtain ⟨gG2, eG⟩ := hA_gr zg2 hpn
    have gG := gnew.trans gG2
    have memN : ∀ y, y ∈ NS ↔ y ∈ AL F1 F2 := fun y => by
      rw [pm.mem_iff, hsm y, List.mem_append, m1 y, m2 y]
      exact List.mem_append.symm
    have gCG := ((gD.trans gE).trans gF).trans gG
    have g8G := g8C.trans gCG
    have T9G := TC.gx gCG (fun m => nomatch m)
    obtain ⟨kvG, q1, q2, q3⟩ := T9G.ex
    have keysG : keysT (ys.map fun x => (x, S1 x)) = ys := by unfold keysT; rw [List.map_map]; exact List.map_id _
    rw [keysG] at q2
    refine ⟨d9, _, q1, trivial, fun od => ?_⟩
    have ef : (upd HG d9 (.frz od (.dK kvG))) d9 = some (.frz od (.dK kvG)) := upd_same
    have eGf : (upd HG d9 (.frz od (.dK kvG))) pn = some (.lst (NS.map V.str)) := by
      rw [upd_ne fun e => by rw [e, q1] at eG; cases eG]
      exact eG
    refine ⟨_, rfl, d9, od, rfl, .inl ⟨kvG, ef, fun D1 hD1 => lc_it (walk_keys (kvs := kvG)) (fun j H' => H' = upd (upd HG d9 (.frz od (.dK kvG))) D1 (.lst [])) rfl (fun j H' _ e => ?_) ?_ ?_⟩⟩
    · rw [e, upd_ne fun e => by rw [← e, ef] at hD1; cases hD1]
      exact ef
    · rintro j x H' H'' hj rfl ⟨rfl, k, vk, hkv, rfl⟩
      obtain ⟨n, hn, rfl⟩ : ∃ n, n ∈ ys ∧ k = Sum.inr n := by
        have hm : k ∈ kvG.map (·.1) := List.mem_map.mpr ⟨(k, vk), List.mem_of_getElem? hkv, rfl⟩
        rw [q2] at hm
        obtain ⟨n, h, e⟩ := List.mem_map.mp hm
        exact ⟨n, h, e.symm⟩
      have inN : n ∈ NS := (memN n).mpr (U1.kd n (hperm.mem_iff.mp hn))
      have eGD : (upd (upd HG d9 (.frz od (.dK kvG))) D1 (.lst [])) pn = some (.lst (NS.map V.str)) := by
        rw [upd_ne fun e => by rw [← e, eGf] at hD1; cases hD1]
        exact eGf
      refine ⟨rfl, _, rfl, _, rfl, pn, _, rfl, .inl (SqL.of eGD), rfl, flat_strs NS, _, rfl, ?_⟩
      refine ite_f' (show (if true = true then !inV (V.str n) (NS.map V.str) else _) = false by rw [if_pos rfl, inV_strs, decide_eq_true inN]; rfl) ?_
      exact rfl
    · rintro H' rfl
      have nD9 : d9 ≠ D1 := fun e => by rw [← e, ef] at hD1; cases hD1
      have hDG : HG D1 = none := by rw [upd_ne (fun e => nD9 e.symm)] at hD1; exact hD1
      refine ⟨by rw [upd_ne nD9]; exact ef, ?_⟩
      have back : upd (upd (upd HG d9 (.frz od (.dK kvG))) D1 (.lst [])) d9 (.dK kvG) = upd HG D1 (.lst []) := by
        funext z
        by_cases z9 : z = d9
        · subst z9
          rw [upd_same, upd_ne nD9]
          exact q1.symm
        · rw [upd_ne z9]
          by_cases zD : z = D1
          · subst zD; rw [upd_same, upd_same]
          · rw [upd_ne zD, upd_ne z9, upd_ne zD]
      rw [back]
      have gH : Gr HG (upd HG D1 (.lst [])) := Gx.new hDG
      have eH : (upd HG D1 (.lst [])) D1 = some (.lst []) := upd_same
      generalize upd HG D1 (.lst []) = HH at gH eH ⊢
      refine ⟨D1, [], rfl, .inl (SqL.of eH), _, _, rfl, rfl, _, rfl, iteF ?_⟩
      have eN := gH.lst eG (fun m => nomatch m)
      have g8H := g8G.trans gH
      have T9H := T9G.gx gH (fun m => nomatch m)
      have T7H := T7.gx (g8.trans g8H) (fun m => nomatch m)
      obtain ⟨n0, NT, rfl⟩ : ∃ x xs, NS = x :: xs := by
        obtain ⟨y, hy⟩ := F1.lets_some
        cases NS with
        | nil => exact absurd ((memN y).mpr (List.mem_append_left _ hy)) List.not_mem_nil
        | cons x xs => exact ⟨x, xs, rfl⟩
      have inL : ∀ x ∈ AL F1 F2, InF F1 F2 (.lt x) := fun x hx => (List.mem_append.mp hx).elim (fun h => .inl (prt_lt h)) fun h => .inr (prt_lt h)
      have in0 := (memN n0).mp List.mem_cons_self
      refine ⟨_, rfl, pn, _, _, _, rfl, rfl, SqL.of eN, at0, (by show 2 ≤ sizeLine; decide), fun p1 hp1 => ?_⟩
      generalize zI : upd HH p1 _ = HI
      obtain ⟨gI, eI⟩ := hA_gr zI hp1
      refine ⟨_, rfl, .ref p1, dk, .lt n0, F1, F2, l, S, rfl, mk_lt (SqT.of eI), T7H.gx gI (fun m => nomatch m), U7, inL n0 in0, DR.dn _ l S (inL n0 in0) U7, fun uM HJ gJ huM => ?_⟩
      have gHJ := gI.trans gJ
      refine ⟨_, rfl, pn, _, _, _, rfl, rfl, SqL.of (gHJ.lst eN fun m => nomatch m), at0, (by show 2 ≤ sizeLine; decide), fun p2 hp2 => ?_⟩
      generalize zK : upd HJ p2 _ = HK
      obtain ⟨gK, eK⟩ := hA_gr zK hp2
      refine ⟨_, rfl, .ref p2, d9, .lt n0, _, rfl, mk_lt (SqT.of eK), (by decide : 1 ≤ 64), ⟨_, ((T9H.gx gHJ (fun m => nomatch m)).gx gK (fun m => nomatch m)).tb⟩, fun uT HL gL huT => ?_⟩
      rw [epu] at huT
      have gHL := (gHJ.trans gK).trans gL
      have huM' : FmV K HL uM (S n0) := (gK.trans gL).dt huM
      have huT' : FmV K HL uT (S1 n0) := huT
      refine ⟨_, rfl, 1, rfl, ?_⟩
      delta L2.tNoPart
      refine ⟨pn, _, rfl, SqL.of (gHL.lst eN fun m => nomatch m), fun p3 hp3 => ?_⟩
      rw [cutV_tl]
      generalize zM : upd HL p3 _ = HM
      obtain ⟨gM, eM⟩ := hA_gr zM hp3
      have eM : HM p3 = some (.lst (NT.map V.str)) := eM
      have g8M := (g8H.trans gHL).trans gM
      refine ⟨p3, rfl, ⟨_, SqL.of eM⟩, for_list (K := K) (a := p3) (xs := NT.map V.str) (fun j σ H' => ∃ x6 vm vt, σ = [some (.ref a), some (.ref b), some (.int (0 + (i : Int))), some v, some u, w5, x6, some (.ref dk), some (.bl true), some (.ref d9), some uA, some (.ref pn), some vm, some vt] ∧ Gr HM H' ∧ FmV K H' vm (ifN S (NT.take j) (S n0)) ∧ FmV K H' vt (ifN S1 (NT.take j) (S1 n0))) ⟨_, uM, uT, rfl, Gx.refl, gM.dt huM', gM.dt huT'⟩ (fun j σ H' _ ⟨_, _, _, _, g, _⟩ => SqL.of (g.lst eM fun m => nomatch m)) ?_ ?_⟩
      · rintro j x σ R0 hj ⟨x6, vm, vt, rfl, r0, hm, ht0⟩
        rw [List.getElem?_map] at hj
        obtain ⟨nm, enm, rfl⟩ := Option.map_eq_some_iff.mp hj
        have inm := (memN nm).mp (List.mem_cons_of_mem _ (List.mem_of_getElem? enm))
        have g8R := g8M.trans r0
        refine ⟨_, rfl, (by show 2 ≤ sizeLine; decide), fun a1 ha1 => ?_⟩
        generalize y1 : upd R0 a1 _ = R1
        obtain ⟨r1, f1⟩ := hA_gr y1 ha1
        refine ⟨_, rfl, .ref a1, dk, .lt nm, F1, F2, l, S, rfl, mk_lt (SqT.of f1), T7.gx ((g8.trans g8R).trans r1) (fun m => nomatch m), U7, inL nm inm, DR.dn _ l S (inL nm inm) U7, fun uX R2 r2 huX => ?_⟩
        refine ⟨_, rfl, (by show 3 ≤ sizeLine; decide), fun a2 ha2 => ?_⟩
        generalize y3 : upd R2 a2 _ = R3
        obtain ⟨r3, f3⟩ := hA_gr y3 ha2
        have r03 := (r1.trans r2).trans r3
        refine ⟨_, rfl, (by show 2 ≤ sizeLine; decide), fun a3 ha3 => ?_⟩
        generalize y4 : upd R3 a3 _ = R4
        obtain ⟨r4, f4⟩ := hA_gr y4 ha3
        refine ⟨_, rfl, .ref a3, d9, .lt nm, _, rfl, mk_lt (SqT.of f4), (by decide : 1 ≤ 64), ⟨_, (T9.gx ((g8R.trans r03).trans r4) (fun m => nomatch m)).tb⟩, fun uY R5 r5 huY => ?_⟩
        rw [epu] at huY
        refine ⟨_, rfl, (by show 3 ≤ sizeLine; decide), fun a4 ha4 => ?_⟩
        generalize y6 : upd R5 a4 _ = R6
        obtain ⟨r6, f6⟩ := hA_gr y6 ha4
        have r36 := (r4.trans r5).trans r6
        refine ⟨_, .ref a2, .ref a4, rfl, (r0.trans r03).trans r36, ?_, ?_⟩
        · rw [List.take_succ, enm]
          show FmV K R6 _ (ifN S (NT.take j ++ [nm]) (S n0))
          rw [ifN_snoc]
          exact mk_im (r36.sqT (SqT.of f3)) (r36.dt (r3.dt huX)) (r36.dt (r03.dt hm))
        · rw [List.take_succ, enm]
          show FmV K R6 _ (ifN S1 (NT.take j ++ [nm]) (S1 n0))
          rw [ifN_snoc]
          exact mk_im (SqT.of f6) (r6.dt huY) (r36.dt (r03.dt ht0))
      · rintro σ R0 ⟨x6, vm, vt, rfl, r0, hm, ht0⟩
        rw [List.length_map, List.take_length] at hm ht0
        have hmN : ∀ x ∈ n0 :: NT, x ∈ AL F1 F2 := fun x hx => (memN x).mp hx
        have h4 : NT.length ≤ 4 := by
          have := nodup_len (n0 :: NT) L5 nd fun x hx => DR.l5 x (hmN x hx)
          rw [List.length_cons] at this
          have e5 : L5.length = 5 := rfl
          omega
        obtain ⟨mp, md, mz⟩ := ifN_fit DR U7 hmN h4
        obtain ⟨tp, td, tz⟩ := ifN_fit DR U1 hmN h4
        have s1 : ∀ x, (S1 x).sb S = S x := U1.gen S ((sol S).mpr ((ht rfl S).mp U7.self))
        have s2 : ∀ x, (S x).sb S1 = S1 x := U7.gen S1 ((ht rfl S1).mpr eS)
        have eM1 : (ifN S1 NT (S1 n0)).sb S = ifN S NT (S n0) := ifN_sb s1 NT (s1 n0)
        have eM2 : (ifN S NT (S n0)).sb S1 = ifN S1 NT (S1 n0) := ifN_sb s2 NT (s2 n0)
        generalize ifN S NT (S n0) = M at hm mp md mz eM1 eM2
        generalize ifN S1 NT (S1 n0) = Th at ht0 tp td tz eM1 eM2
        refine ⟨_, rfl, _, rfl, fun da hda => ?_⟩
        generalize y1 : upd R0 da _ = R1
        obtain ⟨r1, f1⟩ := hA_gr y1 hda
        refine ⟨vt, vm, da, Th, M, [], rfl, r1.dt ht0, r1.dt hm, by omega, ⟨mp, by omega, Tk.new f1, (fun x h => nomatch h), List.nodup_nil, by show 0 + Th.size ≤ 30000; omega⟩, fun l' r em R2 r2 _ => ⟨_, rfl, ?_⟩⟩
        have er : r = true := by
          have := mt_sb (p := Th) (T := S)
          rw [eM1, em] at this
          exact this
        subst er
        refine iteF ?_
        have r02 : Gr R0 R2 := r1.drop r2 fun z hz => .inr (by rw [List.mem_singleton.mp hz]; exact hda)
        refine ⟨_, rfl, _, rfl, fun db hdb => ?_⟩
        generalize y3 : upd R2 db _ = R3
        obtain ⟨r3, f3⟩ := hA_gr y3 hdb
        refine ⟨vm, vt, db, M, Th, [], rfl, r3.dt (r02.dt hm), r3.dt (r02.dt ht0), by omega, ⟨tp, by omega, Tk.new f3, (fun x h => nomatch h), List.nodup_nil, by show 0 + M.size ≤ 30000; omega⟩, fun l2' r' em2 R4 r4 _ => ⟨_, rfl, ?_⟩⟩
        have er' : r' = true := by
          have := mt_sb (p := M) (T := S1)
          rw [eM2, em2] at this
          exact this
        subst er'
        have r24 : Gr R2 R4 := r3.drop r4 fun z hz => .inr (by rw [List.mem_singleton.mp hz]; exact hdb)
        have gEnd := ((g8M.trans r0).trans r02).trans r24
        exact iteF ⟨_, _, _, _, _, _, _, _, _, _, _, _, rfl, (B7.gr g8).gr gEnd, (TB7.gx g8).gx gEnd⟩
end
theorem all_mk {l : PySem.W.OpenLaw} {w : World} {K : PySem.W.Frag} {h : Heap} {mg : Str → Option Value} {fa : Addr} (X : K.In h) (G : h.Ns mainGlobals mg) (hfa : mg "law" = some (.ref fa))
  (tabs : ∀ x ∈ (["occurs", "bind", "resolved"] : List Str), ∀ c P, PySem.W.tabIn K x = some (c, P) → PySem.W.CodeHd h c P ∧ h.get? P = some { cls := .none, data := .fields #[] })
  {f_walked : Addr} {od_walked an_walked : Option Addr} {sl_walked : Array (Option Value)} {oc_walked kV_walked dc_walked pm_walked cd_walked ct_walked : Value}
  {f_occurs cc_occurs tb_occurs : Addr} {od_occurs an_occurs : Option Addr} {sl_occurs : Array (Option Value)} {oc_occurs kV_occurs dc_occurs pm_occurs ct_occurs qe_occurs : Value} {qd_occurs : Option Addr} {qv_occurs : Array Value} {qs_occurs : Array (Option Value)}
  {f_bind cc_bind tb_bind : Addr} {od_bind an_bind : Option Addr} {sl_bind : Array (Option Value)} {oc_bind kV_bind dc_bind pm_bind ct_bind qe_bind : Value} {qd_bind : Option Addr} {qv_bind : Array Value} {qs_bind : Array (Option Value)}
  {f_resolved cc_resolved tb_resolved : Addr} {od_resolved an_resolved : Option Addr} {sl_resolved : Array (Option Value)} {oc_resolved kV_resolved dc_resolved pm_resolved ct_resolved qe_resolved : Value} {qd_resolved : Option Addr} {qv_resolved : Array Value} {qs_resolved : Array (Option Value)}
  {f_unify : Addr} {od_unify an_unify : Option Addr} {sl_unify : Array (Option Value)} {oc_unify kV_unify dc_unify pm_unify cd_unify ct_unify : Value}
  {f_Lput : Addr} {od_Lput an_Lput : Option Addr} {sl_Lput : Array (Option Value)} {oc_Lput kV_Lput dc_Lput pm_Lput cd_Lput ct_Lput : Value}
  {f_Lcell : Addr} {od_Lcell an_Lcell : Option Addr} {sl_Lcell : Array (Option Value)} {oc_Lcell kV_Lcell dc_Lcell pm_Lcell cd_Lcell ct_Lcell : Value}
  {f_Ldigits : Addr} {od_Ldigits an_Ldigits : Option Addr} {sl_Ldigits : Array (Option Value)} {oc_Ldigits kV_Ldigits dc_Ldigits pm_Ldigits cd_Ldigits ct_Ldigits : Value}
  {f_Lbox : Addr} {od_Lbox an_Lbox : Option Addr} {sl_Lbox : Array (Option Value)} {oc_Lbox kV_Lbox dc_Lbox pm_Lbox cd_Lbox ct_Lbox : Value}
  {f_Ldraw : Addr} {od_Ldraw an_Ldraw : Option Addr} {sl_Ldraw : Array (Option Value)} {oc_Ldraw kV_Ldraw dc_Ldraw pm_Ldraw cd_Ldraw ct_Ldraw : Value}
  {f_Lany : Addr} {od_Lany an_Lany : Option Addr} {sl_Lany : Array (Option Value)} {oc_Lany kV_Lany dc_Lany pm_Lany cd_Lany ct_Lany : Value}
  {f_Lparts : Addr} {od_Lparts an_Lparts : Option Addr} {sl_Lparts : Array (Option Value)} {oc_Lparts kV_Lparts dc_Lparts pm_Lparts cd_Lparts ct_Lparts : Value}
  {f_Lnames : Addr} {od_Lnames an_Lnames : Option Addr} {sl_Lnames : Array (Option Value)} {oc_Lnames kV_Lnames dc_Lnames pm_Lnames cd_Lnames ct_Lnames : Value}
  {f_Lwalk : Addr} {od_Lwalk an_Lwalk : Option Addr} {sl_Lwalk : Array (Option Value)} {oc_Lwalk kV_Lwalk dc_Lwalk pm_Lwalk cd_Lwalk ct_Lwalk : Value}
  {f_Lhas : Addr} {od_Lhas an_Lhas : Option Addr} {sl_Lhas : Array (Option Value)} {oc_Lhas kV_Lhas dc_Lhas pm_Lhas cd_Lhas ct_Lhas : Value}
  {f_Lbind : Addr} {od_Lbind an_Lbind : Option Addr} {sl_Lbind : Array (Option Value)} {oc_Lbind kV_Lbind dc_Lbind pm_Lbind cd_Lbind ct_Lbind : Value}
  {f_Lsame : Addr} {od_Lsame an_Lsame : Option Addr} {sl_Lsame : Array (Option Value)} {oc_Lsame kV_Lsame dc_Lsame pm_Lsame cd_Lsame ct_Lsame : Value}
  {f_Lsolved : Addr} {od_Lsolved an_Lsolved : Option Addr} {sl_Lsolved : Array (Option Value)} {oc_Lsolved kV_Lsolved dc_Lsolved pm_Lsolved cd_Lsolved ct_Lsolved : Value}
  {f_Lmatches : Addr} {od_Lmatches an_Lmatches : Option Addr} {sl_Lmatches : Array (Option Value)} {oc_Lmatches kV_Lmatches dc_Lmatches pm_Lmatches cd_Lmatches ct_Lmatches : Value}
  {f_law : Addr} {od_law an_law : Option Addr} {sl_law : Array (Option Value)} {oc_law kV_law dc_law pm_law cd_law ct_law : Value}
  (a_walked : PySem.W.nsIn K mainGlobals "walked" = some (some (.ref f_walked)))
  (l_walked : K.lookup f_walked = some ⟨oc_walked, od_walked, .func (PySem.W.fnOf "walked" "walked" (defArgs s_walked) (defBody s_walked) (defScope s_walked) .none kV_walked dc_walked pm_walked an_walked cd_walked ct_walked), sl_walked⟩)
  (c_walked : PySem.W.codeIn K cd_walked "walked" = true)
  (k_walked : PySem.W.keepIn K (.ref f_walked) = true)
  (a_occurs : PySem.W.nsIn K mainGlobals "occurs" = some (some (.ref f_occurs)))
  (l_occurs : K.lookup f_occurs = some ⟨oc_occurs, od_occurs, .func (PySem.W.fnOf "occurs" "occurs" (defArgs s_occurs) (defBody s_occurs) (defScope s_occurs) .none kV_occurs dc_occurs pm_occurs an_occurs (.ref cc_occurs) ct_occurs), sl_occurs⟩)
  (c_occurs : PySem.W.codeIn K (.ref cc_occurs) "occurs" = true)
  (k_occurs : PySem.W.keepIn K (.ref f_occurs) = true)
  (q_occurs : K.lookup cc_occurs = some ⟨qe_occurs, qd_occurs, .fields qv_occurs, qs_occurs⟩)
  (t_occurs : (qv_occurs[11]? : Option Value) = some (.ref tb_occurs))
  (nt_occurs : K.lookup tb_occurs = none)
  (a_bind : PySem.W.nsIn K mainGlobals "bind" = some (some (.ref f_bind)))
  (l_bind : K.lookup f_bind = some ⟨oc_bind, od_bind, .func (PySem.W.fnOf "bind" "bind" (defArgs s_bind) (defBody s_bind) (defScope s_bind) .none kV_bind dc_bind pm_bind an_bind (.ref cc_bind) ct_bind), sl_bind⟩)
  (c_bind : PySem.W.codeIn K (.ref cc_bind) "bind" = true)
  (k_bind : PySem.W.keepIn K (.ref f_bind) = true)
  (q_bind : K.lookup cc_bind = some ⟨qe_bind, qd_bind, .fields qv_bind, qs_bind⟩)
  (t_bind : (qv_bind[11]? : Option Value) = some (.ref tb_bind))
  (nt_bind : K.lookup tb_bind = none)
  (a_resolved : PySem.W.nsIn K mainGlobals "resolved" = some (some (.ref f_resolved)))
  (l_resolved : K.lookup f_resolved = some ⟨oc_resolved, od_resolved, .func (PySem.W.fnOf "resolved" "resolved" (defArgs s_resolved) (defBody s_resolved) (defScope s_resolved) .none kV_resolved dc_resolved pm_resolved an_resolved (.ref cc_resolved) ct_resolved), sl_resolved⟩)
  (c_resolved : PySem.W.codeIn K (.ref cc_resolved) "resolved" = true)
  (k_resolved : PySem.W.keepIn K (.ref f_resolved) = true)
  (q_resolved : K.lookup cc_resolved = some ⟨qe_resolved, qd_resolved, .fields qv_resolved, qs_resolved⟩)
  (t_resolved : (qv_resolved[11]? : Option Value) = some (.ref tb_resolved))
  (nt_resolved : K.lookup tb_resolved = none)
  (a_unify : PySem.W.nsIn K mainGlobals "unify" = some (some (.ref f_unify)))
  (l_unify : K.lookup f_unify = some ⟨oc_unify, od_unify, .func (PySem.W.fnOf "unify" "unify" (defArgs s_unify) (defBody s_unify) (defScope s_unify) .none kV_unify dc_unify pm_unify an_unify cd_unify ct_unify), sl_unify⟩)
  (c_unify : PySem.W.codeIn K cd_unify "unify" = true)
  (k_unify : PySem.W.keepIn K (.ref f_unify) = true)
  (a_Lput : PySem.W.nsIn K mainGlobals "_law_put" = some (some (.ref f_Lput)))
  (l_Lput : K.lookup f_Lput = some ⟨oc_Lput, od_Lput, .func (PySem.W.fnOf "_law_put" "_law_put" (defArgs s_Lput) (defBody s_Lput) (defScope s_Lput) .none kV_Lput dc_Lput pm_Lput an_Lput cd_Lput ct_Lput), sl_Lput⟩)
  (c_Lput : PySem.W.codeIn K cd_Lput "_law_put" = true)
  (k_Lput : PySem.W.keepIn K (.ref f_Lput) = true)
  (a_Lcell : PySem.W.nsIn K mainGlobals "_law_cell" = some (some (.ref f_Lcell)))
  (l_Lcell : K.lookup f_Lcell = some ⟨oc_Lcell, od_Lcell, .func (PySem.W.fnOf "_law_cell" "_law_cell" (defArgs s_Lcell) (defBody s_Lcell) (defScope s_Lcell) .none kV_Lcell dc_Lcell pm_Lcell an_Lcell cd_Lcell ct_Lcell), sl_Lcell⟩)
  (c_Lcell : PySem.W.codeIn K cd_Lcell "_law_cell" = true)
  (k_Lcell : PySem.W.keepIn K (.ref f_Lcell) = true)
  (a_Ldigits : PySem.W.nsIn K mainGlobals "_law_digits" = some (some (.ref f_Ldigits)))
  (l_Ldigits : K.lookup f_Ldigits = some ⟨oc_Ldigits, od_Ldigits, .func (PySem.W.fnOf "_law_digits" "_law_digits" (defArgs s_Ldigits) (defBody s_Ldigits) (defScope s_Ldigits) .none kV_Ldigits dc_Ldigits pm_Ldigits an_Ldigits cd_Ldigits ct_Ldigits), sl_Ldigits⟩)
  (c_Ldigits : PySem.W.codeIn K cd_Ldigits "_law_digits" = true)
  (k_Ldigits : PySem.W.keepIn K (.ref f_Ldigits) = true)
  (a_Lbox : PySem.W.nsIn K mainGlobals "_law_box" = some (some (.ref f_Lbox)))
  (l_Lbox : K.lookup f_Lbox = some ⟨oc_Lbox, od_Lbox, .func (PySem.W.fnOf "_law_box" "_law_box" (defArgs s_Lbox) (defBody s_Lbox) (defScope s_Lbox) .none kV_Lbox dc_Lbox pm_Lbox an_Lbox cd_Lbox ct_Lbox), sl_Lbox⟩)
  (c_Lbox : PySem.W.codeIn K cd_Lbox "_law_box" = true)
  (k_Lbox : PySem.W.keepIn K (.ref f_Lbox) = true)
  (a_Ldraw : PySem.W.nsIn K mainGlobals "_law_draw" = some (some (.ref f_Ldraw)))
  (l_Ldraw : K.lookup f_Ldraw = some ⟨oc_Ldraw, od_Ldraw, .func (PySem.W.fnOf "_law_draw" "_law_draw" (defArgs s_Ldraw) (defBody s_Ldraw) (defScope s_Ldraw) .none kV_Ldraw dc_Ldraw pm_Ldraw an_Ldraw cd_Ldraw ct_Ldraw), sl_Ldraw⟩)
  (c_Ldraw : PySem.W.codeIn K cd_Ldraw "_law_draw" = true)
  (k_Ldraw : PySem.W.keepIn K (.ref f_Ldraw) = true)
  (a_Lany : PySem.W.nsIn K mainGlobals "_law_any" = some (some (.ref f_Lany)))
  (l_Lany : K.lookup f_Lany = some ⟨oc_Lany, od_Lany, .func (PySem.W.fnOf "_law_any" "_law_any" (defArgs s_Lany) (defBody s_Lany) (defScope s_Lany) .none kV_Lany dc_Lany pm_Lany an_Lany cd_Lany ct_Lany), sl_Lany⟩)
  (c_Lany : PySem.W.codeIn K cd_Lany "_law_any" = true)
  (k_Lany : PySem.W.keepIn K (.ref f_Lany) = true)
  (a_Lparts : PySem.W.nsIn K mainGlobals "_law_parts" = some (some (.ref f_Lparts)))
  (l_Lparts : K.lookup f_Lparts = some ⟨oc_Lparts, od_Lparts, .func (PySem.W.fnOf "_law_parts" "_law_parts" (defArgs s_Lparts) (defBody s_Lparts) (defScope s_Lparts) .none kV_Lparts dc_Lparts pm_Lparts an_Lparts cd_Lparts ct_Lparts), sl_Lparts⟩)
  (c_Lparts : PySem.W.codeIn K cd_Lparts "_law_parts" = true)
  (k_Lparts : PySem.W.keepIn K (.ref f_Lparts) = true)
  (a_Lnames : PySem.W.nsIn K mainGlobals "_law_names" = some (some (.ref f_Lnames)))
  (l_Lnames : K.lookup f_Lnames = some ⟨oc_Lnames, od_Lnames, .func (PySem.W.fnOf "_law_names" "_law_names" (defArgs s_Lnames) (defBody s_Lnames) (defScope s_Lnames) .none kV_Lnames dc_Lnames pm_Lnames an_Lnames cd_Lnames ct_Lnames), sl_Lnames⟩)
  (c_Lnames : PySem.W.codeIn K cd_Lnames "_law_names" = true)
  (k_Lnames : PySem.W.keepIn K (.ref f_Lnames) = true)
  (a_Lwalk : PySem.W.nsIn K mainGlobals "_law_walk" = some (some (.ref f_Lwalk)))
  (l_Lwalk : K.lookup f_Lwalk = some ⟨oc_Lwalk, od_Lwalk, .func (PySem.W.fnOf "_law_walk" "_law_walk" (defArgs s_Lwalk) (defBody s_Lwalk) (defScope s_Lwalk) .none kV_Lwalk dc_Lwalk pm_Lwalk an_Lwalk cd_Lwalk ct_Lwalk), sl_Lwalk⟩)
  (c_Lwalk : PySem.W.codeIn K cd_Lwalk "_law_walk" = true)
  (k_Lwalk : PySem.W.keepIn K (.ref f_Lwalk) = true)
  (a_Lhas : PySem.W.nsIn K mainGlobals "_law_has" = some (some (.ref f_Lhas)))
  (l_Lhas : K.lookup f_Lhas = some ⟨oc_Lhas, od_Lhas, .func (PySem.W.fnOf "_law_has" "_law_has" (defArgs s_Lhas) (defBody s_Lhas) (defScope s_Lhas) .none kV_Lhas dc_Lhas pm_Lhas an_Lhas cd_Lhas ct_Lhas), sl_Lhas⟩)
  (c_Lhas : PySem.W.codeIn K cd_Lhas "_law_has" = true)
  (k_Lhas : PySem.W.keepIn K (.ref f_Lhas) = true)
  (a_Lbind : PySem.W.nsIn K mainGlobals "_law_bind" = some (some (.ref f_Lbind)))
  (l_Lbind : K.lookup f_Lbind = some ⟨oc_Lbind, od_Lbind, .func (PySem.W.fnOf "_law_bind" "_law_bind" (defArgs s_Lbind) (defBody s_Lbind) (defScope s_Lbind) .none kV_Lbind dc_Lbind pm_Lbind an_Lbind cd_Lbind ct_Lbind), sl_Lbind⟩)
  (c_Lbind : PySem.W.codeIn K cd_Lbind "_law_bind" = true)
  (k_Lbind : PySem.W.keepIn K (.ref f_Lbind) = true)
  (a_Lsame : PySem.W.nsIn K mainGlobals "_law_same" = some (some (.ref f_Lsame)))
  (l_Lsame : K.lookup f_Lsame = some ⟨oc_Lsame, od_Lsame, .func (PySem.W.fnOf "_law_same" "_law_same" (defArgs s_Lsame) (defBody s_Lsame) (defScope s_Lsame) .none kV_Lsame dc_Lsame pm_Lsame an_Lsame cd_Lsame ct_Lsame), sl_Lsame⟩)
  (c_Lsame : PySem.W.codeIn K cd_Lsame "_law_same" = true)
  (k_Lsame : PySem.W.keepIn K (.ref f_Lsame) = true)
  (a_Lsolved : PySem.W.nsIn K mainGlobals "_law_solved" = some (some (.ref f_Lsolved)))
  (l_Lsolved : K.lookup f_Lsolved = some ⟨oc_Lsolved, od_Lsolved, .func (PySem.W.fnOf "_law_solved" "_law_solved" (defArgs s_Lsolved) (defBody s_Lsolved) (defScope s_Lsolved) .none kV_Lsolved dc_Lsolved pm_Lsolved an_Lsolved cd_Lsolved ct_Lsolved), sl_Lsolved⟩)
  (c_Lsolved : PySem.W.codeIn K cd_Lsolved "_law_solved" = true)
  (k_Lsolved : PySem.W.keepIn K (.ref f_Lsolved) = true)
  (a_Lmatches : PySem.W.nsIn K mainGlobals "_law_matches" = some (some (.ref f_Lmatches)))
  (l_Lmatches : K.lookup f_Lmatches = some ⟨oc_Lmatches, od_Lmatches, .func (PySem.W.fnOf "_law_matches" "_law_matches" (defArgs s_Lmatches) (defBody s_Lmatches) (defScope s_Lmatches) .none kV_Lmatches dc_Lmatches pm_Lmatches an_Lmatches cd_Lmatches ct_Lmatches), sl_Lmatches⟩)
  (c_Lmatches : PySem.W.codeIn K cd_Lmatches "_law_matches" = true)
  (k_Lmatches : PySem.W.keepIn K (.ref f_Lmatches) = true)
  (a_law : PySem.W.nsIn K mainGlobals "law" = some (some (.ref f_law)))
  (l_law : K.lookup f_law = some ⟨oc_law, od_law, .func (PySem.W.fnOf "law" "law" (defArgs s_law) (defBody s_law) (defScope s_law) .none kV_law dc_law pm_law an_law cd_law ct_law), sl_law⟩)
  (c_law : PySem.W.codeIn K cd_law "law" = true)
  (k_law : PySem.W.keepIn K (.ref f_law) = true)
  (z_all : PySem.W.nsIn K mainGlobals "all" = some none)
  (z_any : PySem.W.nsIn K mainGlobals "any" = some none)
  (z_bool : PySem.W.nsIn K mainGlobals "bool" = some none)
  (z_dict : PySem.W.nsIn K mainGlobals "dict" = some none)
  (z_int : PySem.W.nsIn K mainGlobals "int" = some none)
  (z_isinstance : PySem.W.nsIn K mainGlobals "isinstance" = some none)
  (z_len : PySem.W.nsIn K mainGlobals "len" = some none)
  (z_range : PySem.W.nsIn K mainGlobals "range" = some none)
  (z_set : PySem.W.nsIn K mainGlobals "set" = some none)
  (z_sorted : PySem.W.nsIn K mainGlobals "sorted" = some none)
  (z_str : PySem.W.nsIn K mainGlobals "str" = some none)
  (z_tuple : PySem.W.nsIn K mainGlobals "tuple" = some none)
  (z_zip : PySem.W.nsIn K mainGlobals "zip" = some none) :
  LamX.LawAtS l w K CX0 195 63 "_law_script" mg fa h := by
  have e := hfa.symm.trans (PySem.W.mg_of X G a_law)
  cases e
  have D_walked : Df K mg "walked" s_walked ["formula", "table"] := df_mk X G (fun _ _ _ _ _ _ us hl => match us, hl with | [_, _], _ => rfl) a_walked l_walked c_walked k_walked
  have D_occurs : DfG K mg "occurs" s_occurs ["name", "formula", "table"] cc_occurs tb_occurs := dg_mk X G (fun _ _ _ _ _ _ us hl => match us, hl with | [_, _, _], _ => rfl) a_occurs l_occurs c_occurs k_occurs
  have T_occurs := tab_mk a_occurs l_occurs rfl q_occurs t_occurs
  have D_bind : DfG K mg "bind" s_bind ["formula", "other", "table"] cc_bind tb_bind := dg_mk X G (fun _ _ _ _ _ _ us hl => match us, hl with | [_, _, _], _ => rfl) a_bind l_bind c_bind k_bind
  have T_bind := tab_mk a_bind l_bind rfl q_bind t_bind
  have D_resolved : DfG K mg "resolved" s_resolved ["formula", "table"] cc_resolved tb_resolved := dg_mk X G (fun _ _ _ _ _ _ us hl => match us, hl with | [_, _], _ => rfl) a_resolved l_resolved c_resolved k_resolved
  have T_resolved := tab_mk a_resolved l_resolved rfl q_resolved t_resolved
  have D_unify : Df K mg "unify" s_unify ["formula", "other"] := df_mk X G (fun _ _ _ _ _ _ us hl => match us, hl with | [_, _], _ => rfl) a_unify l_unify c_unify k_unify
  have D_Lput : Df K mg "_law_put" s_Lput ["_law_formula", "_law_table"] := df_mk X G (fun _ _ _ _ _ _ us hl => match us, hl with | [_, _], _ => rfl) a_Lput l_Lput c_Lput k_Lput
  have D_Lcell : Df K mg "_law_cell" s_Lcell ["_law_script", "_law_k"] := df_mk X G (fun _ _ _ _ _ _ us hl => match us, hl with | [_, _], _ => rfl) a_Lcell l_Lcell c_Lcell k_Lcell
  have D_Ldigits : Df K mg "_law_digits" s_Ldigits ["_law_script", "_law_first", "_law_last"] := df_mk X G (fun _ _ _ _ _ _ us hl => match us, hl with | [_, _, _], _ => rfl) a_Ldigits l_Ldigits c_Ldigits k_Ldigits
  have D_Lbox : Df K mg "_law_box" s_Lbox ["_law_script", "_law_first", "_law_last"] := df_mk X G (fun _ _ _ _ _ _ us hl => match us, hl with | [_, _, _], _ => rfl) a_Lbox l_Lbox c_Lbox k_Lbox
  have D_Ldraw : Df K mg "_law_draw" s_Ldraw ["_law_box_here", "_law_many"] := df_mk X G (fun _ _ _ _ _ _ us hl => match us, hl with | [_, _], _ => rfl) a_Ldraw l_Ldraw c_Ldraw k_Ldraw
  have D_Lany : Df K mg "_law_any" s_Lany ["_law_box_here", "_law_room", "_law_many"] := df_mk X G (fun _ _ _ _ _ _ us hl => match us, hl with | [_, _, _], _ => rfl) a_Lany l_Lany c_Lany k_Lany
  have D_Lparts : Df K mg "_law_parts" s_Lparts ["_law_formula"] := df_mk X G (fun _ _ _ _ _ _ us hl => match us, hl with | [_], _ => rfl) a_Lparts l_Lparts c_Lparts k_Lparts
  have D_Lnames : Df K mg "_law_names" s_Lnames ["_law_formula"] := df_mk X G (fun _ _ _ _ _ _ us hl => match us, hl with | [_], _ => rfl) a_Lnames l_Lnames c_Lnames k_Lnames
  have D_Lwalk : Df K mg "_law_walk" s_Lwalk ["_law_formula", "_law_table"] := df_mk X G (fun _ _ _ _ _ _ us hl => match us, hl with | [_, _], _ => rfl) a_Lwalk l_Lwalk c_Lwalk k_Lwalk
  have D_Lhas : Df K mg "_law_has" s_Lhas ["_law_name", "_law_formula", "_law_table"] := df_mk X G (fun _ _ _ _ _ _ us hl => match us, hl with | [_, _, _], _ => rfl) a_Lhas l_Lhas c_Lhas k_Lhas
  have D_Lbind : Df K mg "_law_bind" s_Lbind ["_law_one", "_law_other", "_law_table"] := df_mk X G (fun _ _ _ _ _ _ us hl => match us, hl with | [_, _, _], _ => rfl) a_Lbind l_Lbind c_Lbind k_Lbind
  have D_Lsame : Df K mg "_law_same" s_Lsame ["_law_actual", "_law_expected"] := df_mk X G (fun _ _ _ _ _ _ us hl => match us, hl with | [_, _], _ => rfl) a_Lsame l_Lsame c_Lsame k_Lsame
  have D_Lsolved : Df K mg "_law_solved" s_Lsolved ["_law_formula", "_law_table"] := df_mk X G (fun _ _ _ _ _ _ us hl => match us, hl with | [_, _], _ => rfl) a_Lsolved l_Lsolved c_Lsolved k_Lsolved
  have D_Lmatches : Df K mg "_law_matches" s_Lmatches ["_law_pattern", "_law_formula", "_law_found"] := df_mk X G (fun _ _ _ _ _ _ us hl => match us, hl with | [_, _, _], _ => rfl) a_Lmatches l_Lmatches c_Lmatches k_Lmatches
  have F_law := fun_mk (st := s_law) l_law c_law k_law
  have B : Bn mg := { all := PySem.W.mg_none_of X G z_all, any := PySem.W.mg_none_of X G z_any, bool := PySem.W.mg_none_of X G z_bool, dict := PySem.W.mg_none_of X G z_dict, int := PySem.W.mg_none_of X G z_int, isinstance := PySem.W.mg_none_of X G z_isinstance, len := PySem.W.mg_none_of X G z_len, range := PySem.W.mg_none_of X G z_range, set := PySem.W.mg_none_of X G z_set, sorted := PySem.W.mg_none_of X G z_sorted, str := PySem.W.mg_none_of X G z_str, tuple := PySem.W.mg_none_of X G z_tuple, zip := PySem.W.mg_none_of X G z_zip }
  refine ⟨PySem.W.fnOf "law" "law" (defArgs s_law) (defBody s_law) (defScope s_law) .none kV_law dc_law pm_law an_law cd_law ct_law, [(cc_occurs, tb_occurs), (cc_bind, tb_bind), (cc_resolved, tb_resolved)], spLaw tb_occurs tb_bind tb_resolved K, (by
    intro p hp
    simp only [List.mem_cons, List.not_mem_nil, or_false] at hp
    rcases hp with rfl | rfl | rfl
    · exact (tabs "occurs" (by simp) _ _ T_occurs).2
    · exact (tabs "bind" (by simp) _ _ T_bind).2
    · exact (tabs "resolved" (by simp) _ _ T_resolved).2), (by
    intro p hp
    simp only [List.mem_cons, List.not_mem_nil, or_false] at hp
    rcases hp with rfl | rfl | rfl
    · exact nt_occurs
    · exact nt_bind
    · exact nt_resolved), (by
    intro p hp
    simp only [List.mem_cons, List.not_mem_nil, or_false] at hp
    rcases hp with rfl | rfl | rfl
    · exact (tabs "occurs" (by simp) _ _ T_occurs).1
    · exact (tabs "bind" (by simp) _ _ T_bind).1
    · exact (tabs "resolved" (by simp) _ _ T_resolved).1), fun s v => .of_eq rfl, fun H a ns hl _ hT hS => ⟨a, ns, rfl, hS, hl, tabG0 (hT (cc_occurs, tb_occurs) (by simp)), tabG0 (hT (cc_bind, tb_bind) (by simp)), tabG0 (hT (cc_resolved, tb_resolved) (by simp)), fun _ => rfl⟩, fun base _ _ TBs => ?_⟩
  have TB_occurs : GxR.TabB base mg cc_occurs tb_occurs := tabB_of (TBs (cc_occurs, tb_occurs) (by simp))
  have TB_bind : GxR.TabB base mg cc_bind tb_bind := tabB_of (TBs (cc_bind, tb_bind) (by simp))
  have TB_resolved : GxR.TabB base mg cc_resolved tb_resolved := tabB_of (TBs (cc_resolved, tb_resolved) (by simp))
  have c1 := ok_Lcell (P := l.prog) (w := w) (base := base) B D_Lcell
  have c2 := ok_Ldraw (P := l.prog) (w := w) (K := K) (base := base) B D_Ldraw
  have c3 := ok_Ldigits (P := l.prog) (w := w) (base := base) B D_Ldigits c1
  have c4 := ok_Lbox (P := l.prog) (w := w) (base := base) B D_Lbox c3
  have c9 := ok_Lsame (P := l.prog) (w := w) (base := base) B D_Lsame 65
  have c5 := ok_Lany (P := l.prog) (w := w) (base := base) B D_Lany c2 13
  have c6 := ok_Lput (P := l.prog) (w := w) (base := base) B D_Lput 64
  have e2 := ok_Lparts (P := l.prog) (w := w) (base := base) B D_Lparts 60
  have e3 := ok_Lnames (P := l.prog) (w := w) (base := base) B D_Lnames e2
  have w1 := ok_wk (P := l.prog) (w := w) (K := K) (base := base) B D_walked
  have o1 := fun n => ok_oc (P := l.prog) (w := w) (base := base) B D_occurs TB_occurs w1 n
  have b1 := ok_bd (P := l.prog) (w := w) (base := base) B D_bind TB_bind w1 o1 61
  have r1 := ok_rs (P := l.prog) (w := w) (base := base) B D_resolved TB_resolved w1 61
  have u1 := ok_un (P := l.prog) (w := w) (base := base) B D_unify b1 r1
  have l1 := ok_Lwk (P := l.prog) (w := w) (K := K) (base := base) B D_Lwalk
  have l2 := ok_Lha (P := l.prog) (w := w) (base := base) B D_Lhas l1 61
  have l3 := ok_Lbd (P := l.prog) (w := w) (base := base) B D_Lbind l1 l2
  have l4 := ok_Lso (P := l.prog) (w := w) (base := base) B D_Lsolved l1 61
  have l5 := ok_Lmt (P := l.prog) (w := w) (base := base) B D_Lmatches 64
  exact ok_law B F_law c4 c2 c5 e3 c6 l3 u1 c9 l4 l5
end Cs
open PySem PySem.W PyProof.Rows
set_option maxRecDepth 100000 in
set_option maxHeartbeats 0 in
theorem PySem.Challenge.cw_conceptscript_k80_formulas_are_unified_holds : PySem.Challenge.rw_conceptscript_k80_formulas_are_unified.Holds := by
  w_on; o_law; k_head; (case hw => w_witness2)
  k_fill
  refine Cs.walkT (l := PySem.Challenge.rw_conceptscript_k80_formulas_are_unified) (k := 195) ["occurs", "bind", "resolved"] rfl rfl ⟨rfl, by decide, by decide⟩ (by decide +kernel) (fun w h Y => PySem.W.kIn_of Y) ?F
  case F =>
    intro w mg fa h KX G hmg tabs
    refine' Cs.all_mk KX G hmg tabs ?a_walked ?l_walked ?c_walked ?k_walked ?a_occurs ?l_occurs ?c_occurs ?k_occurs ?q_occurs ?t_occurs ?nt_occurs ?a_bind ?l_bind ?c_bind ?k_bind ?q_bind ?t_bind ?nt_bind ?a_resolved ?l_resolved ?c_resolved ?k_resolved ?q_resolved ?t_resolved ?nt_resolved ?a_unify ?l_unify ?c_unify ?k_unify ?a_Lput ?l_Lput ?c_Lput ?k_Lput ?a_Lcell ?l_Lcell ?c_Lcell ?k_Lcell ?a_Ldigits ?l_Ldigits ?c_Ldigits ?k_Ldigits ?a_Lbox ?l_Lbox ?c_Lbox ?k_Lbox ?a_Ldraw ?l_Ldraw ?c_Ldraw ?k_Ldraw ?a_Lany ?l_Lany ?c_Lany ?k_Lany ?a_Lparts ?l_Lparts ?c_Lparts ?k_Lparts ?a_Lnames ?l_Lnames ?c_Lnames ?k_Lnames ?a_Lwalk ?l_Lwalk ?c_Lwalk ?k_Lwalk ?a_Lhas ?l_Lhas ?c_Lhas ?k_Lhas ?a_Lbind ?l_Lbind ?c_Lbind ?k_Lbind ?a_Lsame ?l_Lsame ?c_Lsame ?k_Lsame ?a_Lsolved ?l_Lsolved ?c_Lsolved ?k_Lsolved ?a_Lmatches ?l_Lmatches ?c_Lmatches ?k_Lmatches ?a_law ?l_law ?c_law ?k_law ?z_all ?z_any ?z_bool ?z_dict ?z_int ?z_isinstance ?z_len ?z_range ?z_set ?z_sorted ?z_str ?z_tuple ?z_zip
    (case a_walked => k_is)
    (case l_walked => k_is)
    (case c_walked => k_is)
    (case k_walked => k_is)
    (case a_occurs => k_is)
    (case l_occurs => k_is)
    (case c_occurs => k_is)
    (case k_occurs => k_is)
    (case q_occurs => k_is)
    (case t_occurs => exact rfl)
    (case nt_occurs => kernel_rfl)
    (case a_bind => k_is)
    (case l_bind => k_is)
    (case c_bind => k_is)
    (case k_bind => k_is)
    (case q_bind => k_is)
    (case t_bind => exact rfl)
    (case nt_bind => kernel_rfl)
    (case a_resolved => k_is)
    (case l_resolved => k_is)
    (case c_resolved => k_is)
    (case k_resolved => k_is)
    (case q_resolved => k_is)
    (case t_resolved => exact rfl)
    (case nt_resolved => kernel_rfl)
    (case a_unify => k_is)
    (case l_unify => k_is)
    (case c_unify => k_is)
    (case k_unify => k_is)
    (case a_Lput => k_is)
    (case l_Lput => k_is)
    (case c_Lput => k_is)
    (case k_Lput => k_is)
    (case a_Lcell => k_is)
    (case l_Lcell => k_is)
    (case c_Lcell => k_is)
    (case k_Lcell => k_is)
    (case a_Ldigits => k_is)
    (case l_Ldigits => k_is)
    (case c_Ldigits => k_is)
    (case k_Ldigits => k_is)
    (case a_Lbox => k_is)
    (case l_Lbox => k_is)
    (case c_Lbox => k_is)
    (case k_Lbox => k_is)
    (case a_Ldraw => k_is)
    (case l_Ldraw => k_is)
    (case c_Ldraw => k_is)
    (case k_Ldraw => k_is)
    (case a_Lany => k_is)
    (case l_Lany => k_is)
    (case c_Lany => k_is)
    (case k_Lany => k_is)
    (case a_Lparts => k_is)
    (case l_Lparts => k_is)
    (case c_Lparts => k_is)
    (case k_Lparts => k_is)
    (case a_Lnames => k_is)
    (case l_Lnames => k_is)
    (case c_Lnames => k_is)
    (case k_Lnames => k_is)
    (case a_Lwalk => k_is)
    (case l_Lwalk => k_is)
    (case c_Lwalk => k_is)
    (case k_Lwalk => k_is)
    (case a_Lhas => k_is)
    (case l_Lhas => k_is)
    (case c_Lhas => k_is)
    (case k_Lhas => k_is)
    (case a_Lbind => k_is)
    (case l_Lbind => k_is)
    (case c_Lbind => k_is)
    (case k_Lbind => k_is)
    (case a_Lsame => k_is)
    (case l_Lsame => k_is)
    (case c_Lsame => k_is)
    (case k_Lsame => k_is)
    (case a_Lsolved => k_is)
    (case l_Lsolved => k_is)
    (case c_Lsolved => k_is)
    (case k_Lsolved => k_is)
    (case a_Lmatches => k_is)
    (case l_Lmatches => k_is)
    (case c_Lmatches => k_is)
    (case k_Lmatches => k_is)
    (case a_law => k_is)
    (case l_law => k_is)
    (case c_law => k_is)
    (case k_law => k_is)
    (case z_all => k_is)
    (case z_any => k_is)
    (case z_bool => k_is)
    (case z_dict => k_is)
    (case z_int => k_is)
    (case z_isinstance => k_is)
    (case z_len => k_is)
    (case z_range => k_is)
    (case z_set => k_is)
    (case z_sorted => k_is)
    (case z_str => k_is)
    (case z_tuple => k_is)
    (case z_zip => k_is)
#print axioms PySem.Challenge.cw_conceptscript_k80_formulas_are_unified_holds
