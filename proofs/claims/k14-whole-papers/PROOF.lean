import PyProof.Rows.All
import Wide.All
import OpenK.AllK
import Wide.FinOn
import HandS.ForMost
import HandS.FStr
import HandS.SetKeys
import HandS.SetBool
import HandS.DictComp
import HandS.DictTup
import HandS.TupAny
import HandS.IsInst
import HandS.AnyAll
import HandS.EndTab
import HandS.Zip
import HandS.Walk
import HandS.Wide
import KE.KDictKeyed
import KE.GoesEnum
import HandS.Set
import PyProof.Rows.SortStr
import PyProof.Rows.SortShellAny
import KE.KNest
import PySem.Challenge.RW_carryclaim_k14_whole_papers_written_and
set_option Elab.async false
set_option linter.all false
set_option maxRecDepth 100000
set_option maxHeartbeats 4000000
/-! Carryclaim: programs and papers as data; how data stands in the abstract heap. -/
namespace Cl
open PySem PySem.Spec PyProof.Rows L2

/-! ### heaps -/
/-- tuples and known things stand -/
def TLe (H H' : Hp) : Prop := ∀ a, (∀ xs, H a = some (.tup xs) → H' a = some (.tup xs)) ∧ ∀ o u, H a = some (.frz o u) → H' a = some (.frz o u)
theorem TLe.refl (H : Hp) : TLe H H := fun _ => ⟨fun _ h => h, fun _ _ h => h⟩
theorem TLe.trans {H H1 H2 : Hp} (a : TLe H H1) (b : TLe H1 H2) : TLe H H2 := fun c => ⟨fun xs h => (b c).1 xs ((a c).1 xs h), fun o u h => (b c).2 o u ((a c).2 o u h)⟩
theorem TLe.seqT {K : PySem.W.Frag} {H H' : Hp} {a : Addr} {xs : List V} (e : TLe H H') (h : SqT K H a xs) : SqT K H' a xs := by
  rcases h with (h | ⟨o, h⟩) | h
  · exact .inl (.inl ((e a).1 _ h))
  · exact .inl (.inr ⟨o, (e a).2 _ _ h⟩)
  · exact .inr h
/-- from H to H' all stands but what is at m -/
structure Kp (m : Option Addr) (H H' : Hp) : Prop where
  old : ∀ b o, H b = some o → some b ≠ m → H' b = some o
  tle : TLe H H'
  dom : ∀ b, H' b = none → H b = none
theorem Kp.refl {m : Option Addr} (H : Hp) : Kp m H H := ⟨fun _ _ h _ => h, TLe.refl H, fun _ h => h⟩
theorem Kp.trans {m : Option Addr} {H H1 H2 : Hp} (a : Kp m H H1) (b : Kp m H1 H2) : Kp m H H2 :=
  ⟨fun c o h n => b.old c o (a.old c o h n) n, a.tle.trans b.tle, fun c h => a.dom c (b.dom c h)⟩
theorem Kp.up {m : Option Addr} {H H' : Hp} (a : Kp none H H') : Kp m H H' := ⟨fun c o h _ => a.old c o h (by simp), a.tle, a.dom⟩
theorem Kp.of {m : Option Addr} {H H' : Hp} {a : Addr} {o : HO} (k : Kp m H H') (h : H a = some o) (n : some a ≠ m := by simp) : H' a = some o := k.old a o h n
theorem Kp.same {H H' : Hp} (k : Kp none H H') : Same H H' := fun b o h => k.old b o h (by simp)
/-- a new object -/
theorem Kp.new {m : Option Addr} {H H' : Hp} {p : Addr} {o : HO} (k : Kp m H H') (n : H' p = none) : Kp m H (upd H' p o) := by
  have n0 := k.dom p n
  refine ⟨fun b u h e => ?_, fun a => ⟨fun xs h => ?_, fun w u h => ?_⟩, fun b h => ?_⟩
  · rw [upd_ne (ne_of_none h n0)]; exact k.old b u h e
  · rw [upd_ne (ne_of_none h n0)]; exact (k.tle a).1 _ h
  · rw [upd_ne (ne_of_none h n0)]; exact (k.tle a).2 _ _ h
  · by_cases hb : b = p
    · rw [hb]; exact n0
    · rw [upd_ne hb] at h; exact k.dom b h
/-- what is new since H may change -/
theorem Kp.put {m : Option Addr} {H H' : Hp} {p : Addr} {o : HO} (k : Kp m H H') (n0 : H p = none) : Kp m H (upd H' p o) := by
  refine ⟨fun b u h e => ?_, fun a => ⟨fun xs h => ?_, fun w u h => ?_⟩, fun b h => ?_⟩
  · rw [upd_ne (ne_of_none h n0)]; exact k.old b u h e
  · rw [upd_ne (ne_of_none h n0)]; exact (k.tle a).1 _ h
  · rw [upd_ne (ne_of_none h n0)]; exact (k.tle a).2 _ _ h
  · by_cases hb : b = p
    · rw [hb]; exact n0
    · rw [upd_ne hb] at h; exact k.dom b h
/-- the list at m changes -/
theorem Kp.at {H H' : Hp} {m : Addr} {xs : List V} {o : HO} (k : Kp (some m) H H') (h0 : H' m = some (.lst xs)) : Kp (some m) H (upd H' m o) := by
  have ht : ∀ {a : Addr} {u : HO}, H' a = some u → u ≠ .lst xs → a ≠ m := fun {a u} h d e => by
    subst e; rw [h0] at h; exact d (Option.some.inj h).symm
  refine ⟨fun b u h e => ?_, fun a => ⟨fun xs h => ?_, fun w u h => ?_⟩, fun b h => ?_⟩
  · rw [upd_ne (fun z => e (by rw [z]))]; exact k.old b u h e
  · have q := (k.tle a).1 _ h
    rw [upd_ne (ht q (by intro z; cases z))]; exact q
  · have q := (k.tle a).2 _ _ h
    rw [upd_ne (ht q (by intro z; cases z))]; exact q
  · by_cases hb : b = m
    · subst hb; rw [upd_same] at h; cases h
    · rw [upd_ne hb] at h; exact k.dom b h
theorem Kp.fresh {m : Option Addr} {H H' : Hp} {p : Addr} (k : Kp m H H') (n : H' p = none) : H p = none := k.dom p n
/-- a list that stands may change: tuples stand -/
theorem TLe.put {H : Hp} {p : Addr} {xs : List V} {o : HO} (h : H p = some (.lst xs)) : TLe H (upd H p o) := fun a =>
  ⟨fun ys e => by rw [upd_ne (ne_of e h (by intro z; cases z))]; exact e, fun w u e => by rw [upd_ne (ne_of e h (by intro z; cases z))]; exact e⟩
theorem TLe.new {H : Hp} {p : Addr} {o : HO} (h : H p = none) : TLe H (upd H p o) := fun a =>
  ⟨fun ys e => by rw [upd_ne (ne_of_none e h)]; exact e, fun w u e => by rw [upd_ne (ne_of_none e h)]; exact e⟩
theorem Kp.lst {m : Option Addr} {K : PySem.W.Frag} {H H' : Hp} {a : Addr} {xs : List V} (k : Kp m H H') (h : SqL K H a xs) (n : some a ≠ m := by simp) : SqL K H' a xs := by
  rcases h with (h | ⟨o, h⟩) | h
  · exact .inl (.inl (k.old _ _ h n))
  · exact .inl (.inr ⟨o, k.old _ _ h n⟩)
  · exact .inr h

/-! ### data in the heap -/
mutual
inductive Rp (K : PySem.W.Frag) (H : Hp) : V → PyData → Prop
  | non : Rp K H .non .none
  | int (i : Int) : Rp K H (.int i) (.int i)
  | str (x : Str) : Rp K H (.str x) (.str x)
  | tup {a : Addr} {vs : List V} {ds : List PyData} : SqT K H a vs → RpA K H vs ds → Rp K H (.ref a) (.tuple ds)
inductive RpA (K : PySem.W.Frag) (H : Hp) : List V → List PyData → Prop
  | nil : RpA K H [] []
  | cons {v : V} {vs : List V} {d : PyData} {ds : List PyData} : Rp K H v d → RpA K H vs ds → RpA K H (v :: vs) (d :: ds)
end
section
variable {K : PySem.W.Frag} {H H' : Hp}
mutual
theorem Rp.mono (e : TLe H H') : ∀ {v : V} {d : PyData}, Rp K H v d → Rp K H' v d
  | _, _, .non => .non
  | _, _, .int i => .int i
  | _, _, .str x => .str x
  | _, _, .tup h r => .tup (e.seqT h) (RpA.mono e r)
theorem RpA.mono (e : TLe H H') : ∀ {vs : List V} {ds : List PyData}, RpA K H vs ds → RpA K H' vs ds
  | _, _, .nil => .nil
  | _, _, .cons h r => .cons (Rp.mono e h) (RpA.mono e r)
end
mutual
theorem Rp.dp : ∀ {v : V} {d : PyData}, Rp K H v d → Dp K H v d
  | _, _, .non => .non
  | _, _, .int i => .int i
  | _, _, .str x => .str x
  | _, _, .tup h r => .tup h (RpA.dp r)
theorem RpA.dp : ∀ {vs : List V} {ds : List PyData}, RpA K H vs ds → DpAll K H vs ds
  | _, _, .nil => .nil
  | _, _, .cons h r => .cons (Rp.dp h) (RpA.dp r)
end
theorem RpA.len : ∀ {vs : List V} {ds : List PyData}, RpA K H vs ds → vs.length = ds.length
  | _, _, .nil => rfl
  | _, _, .cons _ r => congrArg (· + 1) r.len
theorem RpA.get : ∀ {vs : List V} {ds : List PyData} {i : Nat} {v : V}, RpA K H vs ds → vs[i]? = some v → ∃ d, ds[i]? = some d ∧ Rp K H v d
  | _, _, _, _, .nil, e => by simp at e
  | _, _, 0, _, .cons r _, e => by simp at e; subst e; exact ⟨_, rfl, r⟩
  | _, _, i + 1, v, .cons _ t, e => by
    obtain ⟨u, h1, h2⟩ := RpA.get (i := i) (v := v) t (by simpa using e)
    exact ⟨u, by simpa using h1, h2⟩
theorem RpA.get' : ∀ {vs : List V} {ds : List PyData} {i : Nat} {d : PyData}, RpA K H vs ds → ds[i]? = some d → ∃ v, vs[i]? = some v ∧ Rp K H v d
  | _, _, _, _, .nil, e => by simp at e
  | _, _, 0, _, .cons r _, e => by simp at e; subst e; exact ⟨_, rfl, r⟩
  | _, _, i + 1, d, .cons _ t, e => by
    obtain ⟨u, h1, h2⟩ := RpA.get' (i := i) (d := d) t (by simpa using e)
    exact ⟨u, by simpa using h1, h2⟩
theorem RpA.app : ∀ {vs ws : List V} {ds es : List PyData}, RpA K H vs ds → RpA K H ws es → RpA K H (vs ++ ws) (ds ++ es)
  | _, _, _, _, .nil, s => s
  | _, _, _, _, .cons r t, s => .cons r (RpA.app t s)
theorem RpA.one {v : V} {d : PyData} (h : Rp K H v d) : RpA K H [v] [d] := .cons h .nil
theorem RpA.snoc {vs : List V} {ds : List PyData} {v : V} {d : PyData} (r : RpA K H vs ds) (h : Rp K H v d) : RpA K H (vs ++ [v]) (ds ++ [d]) := r.app (.one h)
theorem RpA.take : ∀ {vs : List V} {ds : List PyData} (n : Nat), RpA K H vs ds → RpA K H (vs.take n) (ds.take n)
  | _, _, 0, _ => .nil
  | _, _, _ + 1, .nil => .nil
  | _, _, n + 1, .cons r t => .cons r (RpA.take n t)
theorem RpA.drop : ∀ {vs : List V} {ds : List PyData} (n : Nat), RpA K H vs ds → RpA K H (vs.drop n) (ds.drop n)
  | _, _, 0, r => r
  | _, _, _ + 1, .nil => .nil
  | _, _, n + 1, .cons _ t => RpA.drop n t
theorem RpA.strs : ∀ (xs : List Str), RpA K H (xs.map V.str) (xs.map PyData.str)
  | [] => .nil
  | x :: xs => .cons (.str x) (RpA.strs xs)
theorem RpA.ints : ∀ (xs : List Int), RpA K H (xs.map V.int) (xs.map PyData.int)
  | [] => .nil
  | x :: xs => .cons (.int x) (RpA.ints xs)
theorem RpA.strs_eq : ∀ {vs : List V} {xs : List Str}, RpA K H vs (xs.map PyData.str) → vs = xs.map V.str
  | _, [], r => by cases r; rfl
  | _, x :: xs, r => by
    cases r with
    | cons h t => cases h; rw [RpA.strs_eq t]; rfl
theorem RpA.ints_eq : ∀ {vs : List V} {xs : List Int}, RpA K H vs (xs.map PyData.int) → vs = xs.map V.int
  | _, [], r => by cases r; rfl
  | _, x :: xs, r => by
    cases r with
    | cons h t => cases h; rw [RpA.ints_eq t]; rfl
theorem Rp.tup_inv {v : V} {ds : List PyData} (h : Rp K H v (.tuple ds)) : ∃ a vs, v = .ref a ∧ SqT K H a vs ∧ RpA K H vs ds := by
  cases h with
  | tup h r => exact ⟨_, _, rfl, h, r⟩
theorem Rp.str_inv {v : V} {x : Str} (h : Rp K H v (.str x)) : v = .str x := by cases h; rfl
theorem Rp.int_inv {v : V} {x : Int} (h : Rp K H v (.int x)) : v = .int x := by cases h; rfl
theorem Rp.non_inv {v : V} (h : Rp K H v .none) : v = .non := by cases h; rfl
theorem Rp.t1 {v : V} {d1 : PyData} (h : Rp K H v (.tuple [d1])) : ∃ a v1, v = .ref a ∧ SqT K H a [v1] ∧ Rp K H v1 d1 := by
  obtain ⟨a, vs, rfl, hs, r⟩ := h.tup_inv
  cases r with
  | cons r1 r => cases r; exact ⟨a, _, rfl, hs, r1⟩
theorem Rp.t2 {v : V} {d1 d2 : PyData} (h : Rp K H v (.tuple [d1, d2])) : ∃ a v1 v2, v = .ref a ∧ SqT K H a [v1, v2] ∧ Rp K H v1 d1 ∧ Rp K H v2 d2 := by
  obtain ⟨a, vs, rfl, hs, r⟩ := h.tup_inv
  cases r with
  | cons r1 r => cases r with
    | cons r2 r => cases r; exact ⟨a, _, _, rfl, hs, r1, r2⟩
theorem Rp.t3 {v : V} {d1 d2 d3 : PyData} (h : Rp K H v (.tuple [d1, d2, d3])) : ∃ a v1 v2 v3, v = .ref a ∧ SqT K H a [v1, v2, v3] ∧ Rp K H v1 d1 ∧ Rp K H v2 d2 ∧ Rp K H v3 d3 := by
  obtain ⟨a, vs, rfl, hs, r⟩ := h.tup_inv
  cases r with
  | cons r1 r => cases r with
    | cons r2 r => cases r with
      | cons r3 r => cases r; exact ⟨a, _, _, _, rfl, hs, r1, r2, r3⟩
theorem Rp.t4 {v : V} {d1 d2 d3 d4 : PyData} (h : Rp K H v (.tuple [d1, d2, d3, d4])) :
    ∃ a v1 v2 v3 v4, v = .ref a ∧ SqT K H a [v1, v2, v3, v4] ∧ Rp K H v1 d1 ∧ Rp K H v2 d2 ∧ Rp K H v3 d3 ∧ Rp K H v4 d4 := by
  obtain ⟨a, vs, rfl, hs, r⟩ := h.tup_inv
  cases r with
  | cons r1 r => cases r with
    | cons r2 r => cases r with
      | cons r3 r => cases r with
        | cons r4 r => cases r; exact ⟨a, _, _, _, _, rfl, hs, r1, r2, r3, r4⟩
/-- a new tuple -/
theorem Rp.mk {p : Addr} {vs : List V} {ds : List PyData} (n : H p = none) (r : RpA K H vs ds) : Rp K (upd H p (.tup vs)) (.ref p) (.tuple ds) :=
  .tup (.inl (.inl upd_same)) (r.mono (TLe.new n))
/-- a list of data -/
def Ls (K : PySem.W.Frag) (H : Hp) (p : Addr) (ds : List PyData) : Prop := ∃ vs, H p = some (.lst vs) ∧ RpA K H vs ds
theorem Ls.keep {p : Addr} {ds : List PyData} {m : Option Addr} (k : Kp m H H') (h : Ls K H p ds) (n : some p ≠ m := by simp) : Ls K H' p ds := by
  obtain ⟨vs, h1, h2⟩ := h
  exact ⟨vs, k.of h1 n, h2.mono k.tle⟩
theorem Ls.push {p : Addr} {ds : List PyData} {vs : List V} {v : V} {d : PyData} (h : H p = some (.lst vs)) (r : RpA K H vs ds) (q : Rp K H v d) : Ls K (upd H p (.lst (vs ++ [v]))) p (ds ++ [d]) :=
  ⟨_, upd_same, (r.snoc q).mono (TLe.put h)⟩
end

/-! ### defs that are known by name -/
/-- the def x of the module's top -/
def Df (K : PySem.W.Frag) (mg : Str → Option Value) (x : Str) (st : Stmt) (ps : List Str) : Prop :=
  ∃ (f : Addr) (fd : FuncData), Fun K x x st f fd ∧ Binds K fd ps [] ∧ mg x = some (.ref f)
/-- x keeps the promise sp at level k -/
def Kn (P : Program) (w : World) (K : PySem.W.Frag) (mg : Str → Option Value) (base : Heap) (k : Nat) (x : Str) (ps : List Str) (sp : Sp) : Prop :=
  ∃ (f : Addr) (fd : FuncData), FnOk P w K mg base CX0 k f fd ps sp ∧ Binds K fd ps [] ∧ mg x = some (.ref f) ∧ PySem.W.keepIn K (.ref f) = true
theorem Kn.mono {P : Program} {w : World} {K : PySem.W.Frag} {mg : Str → Option Value} {base : Heap} {j k : Nat} {x : Str} {ps : List Str} {sp : Sp} (h : Kn P w K mg base j x ps sp) (l : j ≤ k) : Kn P w K mg base k x ps sp := by
  obtain ⟨f, fd, a, b⟩ := h
  exact ⟨f, fd, a.mono l, b⟩
theorem Kn.imp {P : Program} {w : World} {K : PySem.W.Frag} {mg : Str → Option Value} {base : Heap} {k : Nat} {x : Str} {ps : List Str} {sp sp' : Sp} (h : Kn P w K mg base k x ps sp)
    (l : ∀ vs H Q E, sp' vs H Q E → sp vs H Q E) : Kn P w K mg base k x ps sp' := by
  obtain ⟨f, fd, a, b⟩ := h
  exact ⟨f, fd, a.imp l, b⟩
theorem Df.ok {P : Program} {w : World} {K : PySem.W.Frag} {mg : Str → Option Value} {base : Heap} {x : Str} {st : Stmt} {N ps : List Str} {k : Nat} {sp : Sp} (D : Df K mg x st ps) (S : FnScope N ps (defScope st))
    (len : ∀ vs H Q E, sp vs H Q E → vs.length = ps.length)
    (hbody : ∀ (f : Addr) (cdv : Value) (A : Around) (outer : List Env) (s : Shared) (H : Hp) (vs : List V) (Q : VK) (E : XK), Room k (A.deeper (envOfC x (defScope st) s.heap.objs.size f cdv)) → sp vs H Q E →
      ∃ t, PSs (cxOf CX0 P w K mg base N x (defScope st) f cdv A outer s H E).nox (defBody st) t ∧ t { nx := fun _ H' => Q .non H', rt := Q } (start N vs) H) : Kn P w K mg base (k + 1) x ps sp := by
  obtain ⟨f, fd, F, b, m⟩ := D
  exact ⟨f, fd, F.ok S len fun cdv A outer s H vs Q E hr h => hbody f cdv A outer s H vs Q E hr h, b, m, F.kp⟩
section
variable {X : Cx} {k j : Nat} {ps : List Str} {sp : Sp} {x : Str} {p pos : Pos} {e : Expr} {es : List Expr} {t : TA}
theorem pe_kn (G : Kn X.prog X.w X.K X.mg X.base k x ps sp) (hr : Room j X.A) (ha : PA X (e :: es) t) (hj : k ≤ j := by decide) (hg : Gl X x := by rfl)
    (hdb : (x == ("__debug__" : Str)) = false := by decide) (he : starEach (e :: es) X.env = (false, eval e X.env) :: starEach es X.env := by rfl) (hpl : (backTo pos (starEach es X.env)).any (·.1) = false := by rfl) :
    PE X (.Call (.Name x p) (e :: es) [] pos) (tCall sp [] E0 t) := by
  obtain ⟨f, fd, F, b, m, kp⟩ := G
  exact pe_call F (hr.mono hj) hg m kp b .nil pass0 ha hdb he hpl
end

/-! ### the text by places -/
def top (i : Nat) : Stmt := PySem.Challenge.pw_carryclaim_k14_whole_papers_written_and.main.body.getD i (.Pass ⟨0, 0, 0, 0⟩)
end Cl

/-! Carryclaim: programs as a tree; how a tree is written as data. -/
namespace Cl
open PySem

/-- a statement; expressions and conditions are carried as data -/
inductive Stm where
  | set (x : Str) (e : PyData)
  | ask (x : Str)
  | tell (e : PyData)
  | check (c : PyData)
  | need (c : PyData)
  | ret (e : PyData)
  | ite (c : PyData) (a b : List Stm)
  | loop (c : PyData) (b : List Stm)
  | call (f : Str) (vs : List PyData) (t : Option Str)

def optD : Option Str → PyData
  | none => .none
  | some x => .str x
mutual
def encS : Stm → PyData
  | .set x e => .tuple [.str "set", .str x, e]
  | .ask x => .tuple [.str "ask", .str x]
  | .tell e => .tuple [.str "tell", e]
  | .check c => .tuple [.str "check", c]
  | .need c => .tuple [.str "need", c]
  | .ret e => .tuple [.str "return", e]
  | .ite c a b => .tuple [.str "if", c, .tuple (encL a), .tuple (encL b)]
  | .loop c b => .tuple [.str "while", c, .tuple (encL b)]
  | .call f vs t => .tuple [.str "call", .str f, .tuple vs, optD t]
def encL : List Stm → List PyData
  | [] => []
  | s :: r => encS s :: encL r
end
theorem encL_map : ∀ b : List Stm, encL b = b.map encS
  | [] => by simp [encL]
  | s :: r => by simp [encL, encL_map r]
abbrev encB (b : List Stm) : PyData := .tuple (b.map encS)

/-- the blocks of a statement -/
def blks : Stm → List (List Stm)
  | .ite _ a b => [a, b]
  | .loop _ b => [b]
  | _ => []
mutual
def depS : Stm → Nat
  | .ite _ a b => max (depL a) (depL b) + 1
  | .loop _ b => depL b + 1
  | _ => 0
def depL : List Stm → Nat
  | [] => 0
  | s :: r => max (depS s) (depL r)
end
mutual
def allS : Stm → List Stm
  | .ite c a b => .ite c a b :: (allL a ++ allL b)
  | .loop c b => .loop c b :: allL b
  | s => [s]
def allL : List Stm → List Stm
  | [] => []
  | s :: r => allS s ++ allL r
end
theorem allS_blks (s : Stm) : allS s = s :: (blks s).flatMap allL := by
  cases s <;> simp [allS, blks]
theorem allL_flat : ∀ b : List Stm, allL b = b.flatMap allS
  | [] => by simp [allL]
  | s :: r => by simp [allL, allL_flat r]
theorem allL_append (a b : List Stm) : allL (a ++ b) = allL a ++ allL b := by
  simp [allL_flat]
theorem depL_mem : ∀ {b : List Stm} {s : Stm}, s ∈ b → depS s ≤ depL b
  | [], s, h => by simp at h
  | x :: r, s, h => by
    unfold depL
    rcases List.mem_cons.mp h with rfl | h
    · omega
    · have := depL_mem h; omega
theorem depS_blk {s : Stm} {b : List Stm} (h : b ∈ blks s) : depL b < depS s := by
  cases s <;> simp [blks] at h
  · rcases h with rfl | rfl <;> simp [depS] <;> omega
  · subst h; simp [depS]
theorem allL_len_pos (b : List Stm) : b.length ≤ (allL b).length := by
  induction b with
  | nil => simp
  | cons s r ih =>
    unfold allL
    have : 1 ≤ (allS s).length := by rw [allS_blks]; simp
    simp; omega

/-- the name that a statement sets -/
def tgt : Stm → Option Str
  | .set x _ => some x
  | .ask x => some x
  | .call _ _ t => t
  | _ => none

/-! the paths of the statements of a block whose first statement has the number k, behind pre -/
mutual
def pathS (p : List Nat) : Stm → List (List Nat)
  | .ite _ a b => p :: (pathL (p ++ [0]) 0 a ++ pathL (p ++ [1]) 0 b)
  | .loop _ b => p :: pathL (p ++ [0]) 0 b
  | _ => [p]
def pathL (p : List Nat) (k : Nat) : List Stm → List (List Nat)
  | [] => []
  | s :: r => pathS (p ++ [k]) s ++ pathL p (k + 1) r
end
/-- the paths within blocks numbered from j on -/
def pathBs (p : List Nat) (j : Nat) : List (List Stm) → List (List Nat)
  | [] => []
  | b :: r => pathL (p ++ [j]) 0 b ++ pathBs p (j + 1) r
theorem pathS_blks (p : List Nat) (s : Stm) : pathS p s = p :: pathBs p 0 (blks s) := by
  cases s <;> simp [pathS, blks, pathBs]
theorem pathBs_append (p : List Nat) : ∀ (a b : List (List Stm)) (j : Nat), pathBs p j (a ++ b) = pathBs p j a ++ pathBs p (j + a.length) b
  | [], b, j => by simp [pathBs]
  | x :: a, b, j => by
    simp only [List.cons_append, pathBs, pathBs_append p a b (j + 1), List.append_assoc, List.length_cons]
    rw [Nat.add_assoc, Nat.add_comm 1]
theorem pathL_append (p : List Nat) : ∀ (a b : List Stm) (k : Nat), pathL p k (a ++ b) = pathL p k a ++ pathL p (k + a.length) b
  | [], b, k => by simp [pathL]
  | x :: a, b, k => by
    simp only [List.cons_append, pathL, pathL_append p a b (k + 1), List.append_assoc, List.length_cons]
    rw [Nat.add_assoc, Nat.add_comm 1]
mutual
theorem pathS_len (p : List Nat) : ∀ s : Stm, (pathS p s).length = (allS s).length
  | .ite c a b => by simp [pathS, allS, pathL_len]
  | .loop c b => by simp [pathS, allS, pathL_len]
  | .set _ _ => by simp [pathS, allS]
  | .ask _ => by simp [pathS, allS]
  | .tell _ => by simp [pathS, allS]
  | .check _ => by simp [pathS, allS]
  | .need _ => by simp [pathS, allS]
  | .ret _ => by simp [pathS, allS]
  | .call _ _ _ => by simp [pathS, allS]
theorem pathL_len (p : List Nat) : ∀ (b : List Stm), ∀ k, (pathL p k b).length = (allL b).length
  | [], _ => by simp [pathL, allL]
  | s :: r, k => by simp [pathL, allL, pathS_len (p ++ [k]) s, pathL_len p r (k + 1)]
end

/-- a procedure, a program -/
structure Pr where
  name : Str
  ps : List Str
  body : List Stm
structure Pg where
  gl : List Str
  prs : List Pr
def encPr (p : Pr) : PyData := .tuple [.str p.name, .tuple (p.ps.map .str), encB p.body]
def encPg (g : Pg) : PyData := .tuple [.tuple (g.gl.map .str), .tuple (g.prs.map encPr)]
end Cl

/-! Carryclaim: loops and comprehensions over data. -/
namespace Cl
open PySem PySem.Spec PyProof.Rows L2

theorem take_split {α : Type} {xs : List α} {i : Nat} {x : α} (h : xs[i]? = some x) : xs = xs.take i ++ x :: xs.drop (i + 1) ∧ xs.take (i + 1) = xs.take i ++ [x] := by
  obtain ⟨hi, rfl⟩ := List.getElem?_eq_some_iff.mp h
  refine ⟨?_, ?_⟩
  · rw [← List.drop_eq_getElem_cons hi, List.take_append_drop]
  · rw [List.take_add_one, List.getElem?_eq_getElem hi]; rfl
section
variable {α : Type} {K : PySem.W.Frag} {a : Addr} {vs : List V} {g : TG} {tb : TS} {D : Ends} {σ : L2.St} {H : Hp}
/-- for x in a tuple of data: the invariant speaks of the part taken -/
theorem for_dt (enc : α → PyData) (xs : List α) (hA : SqT K H a vs) (r : RpA K H vs (xs.map enc)) (Pv : List α → L2.St → Hp → Prop) (h0 : Pv [] σ H) (ht : ∀ l σ' H', Pv l σ' H' → TLe H H')
    (hs : ∀ pre x post y σ' H', xs = pre ++ x :: post → Rp K H' y (enc x) → Pv pre σ' H' → g y σ' H' fun σ2 H2 => tb { D with nx := Pv (pre ++ [x]), ct := Pv (pre ++ [x]), bk := D.nx } σ2 H2)
    (hd : ∀ σ' H', Pv xs σ' H' → D.nx σ' H') :
    ∃ W : Nat → Nat → L2.St → Hp → Prop, (∃ m, W 0 m σ H) ∧ ∀ i m σ H, W i m σ H →
      ((Itt K a).stop i H ∧ D.nx σ H) ∨ ((Itt K a).go i H ∧ ∃ N : L2.St → Hp → Prop, (∀ σ' H', N σ' H' → ∃ m', m' < m ∧ W (i + 1) m' σ' H') ∧ ∀ x H', (Itt K a).yld i H x H' → g x σ H' fun σ2 H2 => tb { D with nx := N, ct := N, bk := D.nx } σ2 H2) := by
  have hl : vs.length = xs.length := by rw [r.len, List.length_map]
  refine for_tup (K := K) (a := a) (xs := vs) (fun i σ H => Pv (xs.take i) σ H) (by simpa using h0) (fun i σ' H' _ p => (ht _ _ _ p).seqT hA) (fun i y σ' H' hy p => ?_) fun σ' H' p => hd σ' H' (by rw [hl, List.take_length] at p; exact p)
  obtain ⟨d, hd', rd⟩ := r.get hy
  obtain ⟨x, hx, rfl⟩ : ∃ x, xs[i]? = some x ∧ enc x = d := by
    rw [List.getElem?_map] at hd'
    cases q : xs[i]? with
    | none => rw [q] at hd'; cases hd'
    | some x => rw [q] at hd'; exact ⟨x, rfl, Option.some.inj hd'⟩
  obtain ⟨e1, e2⟩ := take_split hx
  have q := hs (xs.take i) x (xs.drop (i + 1)) y σ' H' e1 (rd.mono (ht _ _ _ p)) p
  simp only [e2]
  exact q
/-- for x in a list of data that the body leaves alone -/
theorem for_dl (enc : α → PyData) (xs : List α) (r : RpA K H vs (xs.map enc)) (Pv : List α → L2.St → Hp → Prop) (h0 : Pv [] σ H) (ht : ∀ l σ' H', Pv l σ' H' → TLe H H' ∧ SqL K H' a vs)
    (hs : ∀ pre x post y σ' H', xs = pre ++ x :: post → Rp K H' y (enc x) → Pv pre σ' H' → g y σ' H' fun σ2 H2 => tb { D with nx := Pv (pre ++ [x]), ct := Pv (pre ++ [x]), bk := D.nx } σ2 H2)
    (hd : ∀ σ' H', Pv xs σ' H' → D.nx σ' H') :
    ∃ W : Nat → Nat → L2.St → Hp → Prop, (∃ m, W 0 m σ H) ∧ ∀ i m σ H, W i m σ H →
      ((Itl K a).stop i H ∧ D.nx σ H) ∨ ((Itl K a).go i H ∧ ∃ N : L2.St → Hp → Prop, (∀ σ' H', N σ' H' → ∃ m', m' < m ∧ W (i + 1) m' σ' H') ∧ ∀ x H', (Itl K a).yld i H x H' → g x σ H' fun σ2 H2 => tb { D with nx := N, ct := N, bk := D.nx } σ2 H2) := by
  have hl : vs.length = xs.length := by rw [r.len, List.length_map]
  refine for_list (K := K) (a := a) (xs := vs) (fun i σ H => Pv (xs.take i) σ H) (by simpa using h0) (fun i σ' H' _ p => (ht _ _ _ p).2) (fun i y σ' H' hy p => ?_) fun σ' H' p => hd σ' H' (by rw [hl, List.take_length] at p; exact p)
  obtain ⟨d, hd', rd⟩ := r.get hy
  obtain ⟨x, hx, rfl⟩ : ∃ x, xs[i]? = some x ∧ enc x = d := by
    rw [List.getElem?_map] at hd'
    cases q : xs[i]? with
    | none => rw [q] at hd'; cases hd'
    | some x => rw [q] at hd'; exact ⟨x, rfl, Option.some.inj hd'⟩
  obtain ⟨e1, e2⟩ := take_split hx
  have q := hs (xs.take i) x (xs.drop (i + 1)) y σ' H' e1 (rd.mono (ht _ _ _ p).1) p
  simp only [e2]
  exact q
end
section
variable {α : Type} {K : PySem.W.Frag} {a : Addr} {vs : List V} {g : TG} {te : TE} {ws : List Nat} {σ : L2.St} {H : Hp} {D : Addr} {Qd : Hp → Prop} {m : Option Addr}
/-- [e for x in a tuple of data]: e gives out x -/
theorem lc_dt (enc out : α → PyData) (xs : List α) (hA : SqT K H a vs) (r : RpA K H vs (xs.map enc)) (hn : H D = none) (hD : some D ≠ m ∨ m = none) (hz : xs.length < sizeLine)
    (hs : ∀ x y H', x ∈ xs → Kp m H H' → Rp K H' y (enc x) → ∀ R : VK, (∀ z H4, Kp m H' H4 → Rp K H4 z (out x) → R z H4) →
      g y (wipe σ ws) H' fun σ2 H2 => wipe σ2 ws = wipe σ ws ∧ te σ2 H2 R)
    (hd : ∀ H', Kp m H H' → Ls K H' D (xs.map out) → Qd H') :
    ∃ W : Nat → Nat → Hp → Prop, (∃ k, W 0 k (upd H D (.lst []))) ∧ ∀ i k H, W i k H →
      ((Itt K a).stop i H ∧ Qd H) ∨ ((Itt K a).go i H ∧ ∃ Nx : Hp → Prop, (∀ H', Nx H' → ∃ k', k' < k ∧ W (i + 1) k' H') ∧ ∀ x H', (Itt K a).yld i H x H' → g x (wipe σ ws) H' fun σ2 H2 => wipe σ2 ws = wipe σ ws ∧ tYes σ2 H2 fun b H3 =>
        if b = true then te σ2 H3 fun y H4 => ∃ acc, H4 D = some (.lst acc) ∧ acc.length < sizeLine ∧ Nx (upd H4 D (.lst (acc ++ [y]))) else Nx H3) := by
  have hl : vs.length = xs.length := by rw [r.len, List.length_map]
  have dm : some D ≠ m := by
    rcases hD with h | h
    · exact h
    · rw [h]; simp
  refine lc_tup (K := K) (a := a) (xs := vs) (fun i H' => Kp m H H' ∧ Ls K H' D ((xs.take i).map out)) ⟨(Kp.refl H).new hn, [], upd_same, by simpa using RpA.nil⟩ (fun i H' _ p => p.1.tle.seqT hA) (fun i y H' hy p => ?_)
    fun H' p => hd H' p.1 (by have q := p.2; rw [hl, List.take_length] at q; exact q)
  obtain ⟨d, hd', rd⟩ := r.get hy
  obtain ⟨x, hx, rfl⟩ : ∃ x, xs[i]? = some x ∧ enc x = d := by
    rw [List.getElem?_map] at hd'
    cases q : xs[i]? with
    | none => rw [q] at hd'; cases hd'
    | some x => rw [q] at hd'; exact ⟨x, rfl, Option.some.inj hd'⟩
  obtain ⟨e1, e2⟩ := take_split hx
  obtain ⟨kp, acc, ha, ra⟩ := p
  have hm : x ∈ xs := by rw [e1]; simp
  refine hs x y H' hm kp (rd.mono kp.tle) (fun z H4 => ∃ acc, H4 D = some (.lst acc) ∧ acc.length < sizeLine ∧ Kp m H (upd H4 D (.lst (acc ++ [z]))) ∧ Ls K (upd H4 D (.lst (acc ++ [z]))) D ((xs.take (i + 1)).map out)) fun z H4 k4 r4 => ?_
  have ha4 := k4.of ha dm
  have hi : i < xs.length := (List.getElem?_eq_some_iff.mp hx).1
  refine ⟨acc, ha4, ?_, (kp.trans k4).put hn, ?_⟩
  · rw [ra.len, List.length_map, List.length_take]; omega
  · rw [e2, List.map_append]
    exact Ls.push ha4 (ra.mono k4.tle) r4
/-- .. over a list of data -/
theorem lc_dl (enc out : α → PyData) (xs : List α) (hA : SqL K H a vs) (am : some a ≠ m) (r : RpA K H vs (xs.map enc)) (hn : H D = none) (hD : some D ≠ m ∨ m = none) (hz : xs.length < sizeLine)
    (hs : ∀ x y H', x ∈ xs → Kp m H H' → Rp K H' y (enc x) → ∀ R : VK, (∀ z H4, Kp m H' H4 → Rp K H4 z (out x) → R z H4) →
      g y (wipe σ ws) H' fun σ2 H2 => wipe σ2 ws = wipe σ ws ∧ te σ2 H2 R)
    (hd : ∀ H', Kp m H H' → Ls K H' D (xs.map out) → Qd H') :
    ∃ W : Nat → Nat → Hp → Prop, (∃ k, W 0 k (upd H D (.lst []))) ∧ ∀ i k H, W i k H →
      ((Itl K a).stop i H ∧ Qd H) ∨ ((Itl K a).go i H ∧ ∃ Nx : Hp → Prop, (∀ H', Nx H' → ∃ k', k' < k ∧ W (i + 1) k' H') ∧ ∀ x H', (Itl K a).yld i H x H' → g x (wipe σ ws) H' fun σ2 H2 => wipe σ2 ws = wipe σ ws ∧ tYes σ2 H2 fun b H3 =>
        if b = true then te σ2 H3 fun y H4 => ∃ acc, H4 D = some (.lst acc) ∧ acc.length < sizeLine ∧ Nx (upd H4 D (.lst (acc ++ [y]))) else Nx H3) := by
  have hl : vs.length = xs.length := by rw [r.len, List.length_map]
  have dm : some D ≠ m := by
    rcases hD with h | h
    · exact h
    · rw [h]; simp
  refine lc_list (K := K) (a := a) (xs := vs) (fun i H' => Kp m H H' ∧ Ls K H' D ((xs.take i).map out)) ⟨(Kp.refl H).new hn, [], upd_same, by simpa using RpA.nil⟩ (fun i H' _ p => p.1.lst hA am) (fun i y H' hy p => ?_)
    fun H' p => hd H' p.1 (by have q := p.2; rw [hl, List.take_length] at q; exact q)
  obtain ⟨d, hd', rd⟩ := r.get hy
  obtain ⟨x, hx, rfl⟩ : ∃ x, xs[i]? = some x ∧ enc x = d := by
    rw [List.getElem?_map] at hd'
    cases q : xs[i]? with
    | none => rw [q] at hd'; cases hd'
    | some x => rw [q] at hd'; exact ⟨x, rfl, Option.some.inj hd'⟩
  obtain ⟨e1, e2⟩ := take_split hx
  obtain ⟨kp, acc, ha, ra⟩ := p
  have hm : x ∈ xs := by rw [e1]; simp
  refine hs x y H' hm kp (rd.mono kp.tle) (fun z H4 => ∃ acc, H4 D = some (.lst acc) ∧ acc.length < sizeLine ∧ Kp m H (upd H4 D (.lst (acc ++ [z]))) ∧ Ls K (upd H4 D (.lst (acc ++ [z]))) D ((xs.take (i + 1)).map out)) fun z H4 k4 r4 => ?_
  have ha4 := k4.of ha dm
  have hi : i < xs.length := (List.getElem?_eq_some_iff.mp hx).1
  refine ⟨acc, ha4, ?_, (kp.trans k4).put hn, ?_⟩
  · rw [ra.len, List.length_map, List.length_take]; omega
  · rw [e2, List.map_append]
    exact Ls.push ha4 (ra.mono k4.tle) r4
end

/-- the built-in names that the text asks for are the built-ins; the module's constants -/
structure Bl (mg : Str → Option Value) : Prop where
  len : mg "len" = none
  str : mg "str" = none
  int : mg "int" = none
  bool : mg "bool" = none
  list : mg "list" = none
  tuple : mg "tuple" = none
  range : mg "range" = none
  isinstance : mg "isinstance" = none
  repr : mg "repr" = none
  enumerate : mg "enumerate" = none
  zip : mg "zip" = none
  sorted : mg "sorted" = none
  min : mg "min" = none
  abs : mg "abs" = none
  all : mg "all" = none
  LARGEST : ∃ t, mg "LARGEST" = some (.int 10000 t)
theorem small_lt {n : Nat} (h : n ≤ 100000) : n < sizeLine := Nat.lt_of_le_of_lt h (by decide)
theorem small_le {n : Nat} (h : n ≤ 100000) : n ≤ sizeLine := Nat.le_of_lt (small_lt h)
end Cl

/-! Carryclaim: the defs of programs.py. -/
namespace Cl
open PySem PySem.Spec PyProof.Rows L2

def findPr (g : Pg) (nm : Str) : Option Pr := g.prs.find? fun q => decide (q.name = nm)
def spProcOf (K : PySem.W.Frag) : Sp := fun vs H Q _ => ∃ (v : V) (nm : Str) (g : Pg) (p : Pr), vs = [v, .str nm] ∧ Rp K H v (encPg g) ∧ findPr g nm = some p ∧ ∀ u H', Kp none H H' → Rp K H' u (encPr p) → Q u H'
section
variable {P : Program} {w : World} {K : PySem.W.Frag} {mg : Str → Option Value} {base : Heap}
abbrev s_procedure_of : Stmt := top 4
abbrev N_procedure_of : List Str := ["program", "name", "procedure"]
theorem sc_procedure_of : FnScope N_procedure_of ["program", "name"] (defScope s_procedure_of) := ⟨rfl, rfl, rfl, by decide +kernel, rfl, by decide +kernel, by decide +kernel⟩
theorem ok_procedure_of (D : Df K mg "procedure_of" s_procedure_of ["program", "name"]) : Kn P w K mg base 1 "procedure_of" ["program", "name"] (spProcOf K) := by
  refine D.ok sc_procedure_of (fun vs H Q E h => ?_) (fun f cdv A outer s H vs Q E hr h => ?_)
  · obtain ⟨v, nm, g, p, rfl, _⟩ := h
    rfl
  obtain ⟨v, nm, g, p, rfl, hv, hf, q⟩ := h
  refine ⟨_, (pss_cons (ps_for PassesOwn.never rfl (pi_tup (pe_ix ix_tup (pv 0) pe_int (fun _ _ => rfl))) (pg_name (i := 2) sc_procedure_of.nd rfl (by first | exact Or.inl rfl | exact Or.inr rfl)) (pss_one (ps_if (pt_cmpR op_eq (pe_ix ix_tup (pv 2) pe_int (fun _ _ => rfl)) (pv 1) (nomark _)) (pss_one (ps_ret (pv 2))) pss_nil)))
    (pss_one (ps_ret pe_non))), ?_⟩
  obtain ⟨a, v1, v2, rfl, hs, r1, r2⟩ := hv.t2
  obtain ⟨b, ws, rfl, hs2, r3⟩ := r2.tup_inv
  refine ⟨_, rfl, _, _, _, _, rfl, rfl, hs, rfl, b, rfl, ⟨_, hs2⟩, for_dt encPr g.prs hs2 r3 (fun l σ' H' => H' = H ∧ (∃ y, σ' = [some (.ref a), some (.str nm), y]) ∧ ∀ x ∈ l, x.name ≠ nm)
    ⟨rfl, ⟨_, rfl⟩, by simp⟩ (fun l σ' H' p => by rw [p.1]; exact TLe.refl _) ?_ ?_⟩
  · rintro pre x post y σ' H' e ry ⟨rfl, ⟨z, rfl⟩, hl⟩
    obtain ⟨c, u1, u2, u3, rfl, hc, q1, q2, q3⟩ := ry.t3
    rw [q1.str_inv] at hc
    refine ⟨_, rfl, _, _, _, _, rfl, rfl, hc, rfl, _, rfl, rfl, _, rfl, ?_⟩
    refine ite2 (fun hx => ?_) (fun hx => ?_)
    · have hx' : x.name = nm := by simpa using hx
      have : x = p := by
        have hp : findPr g nm = some x := by
          unfold findPr
          rw [e, List.find?_append, List.find?_eq_none.mpr (by simpa using hl)]
          simp [hx']
        rw [hp] at hf
        exact Option.some.inj hf
      subst this
      exact ⟨_, rfl, q _ _ (Kp.refl _) ry⟩
    · have hx' : x.name ≠ nm := by simpa using hx
      refine ⟨rfl, ⟨_, rfl⟩, fun z hz => ?_⟩
      rcases List.mem_append.mp hz with hz | hz
      · exact hl z hz
      · rw [List.mem_singleton.mp hz]; exact hx'
  · rintro σ' H' ⟨rfl, _, hl⟩
    unfold findPr at hf
    rw [List.find?_eq_none.mpr (by simpa using hl)] at hf
    cases hf
end
end Cl

namespace Cl
open PySem PySem.Spec PyProof.Rows L2

def tagS : Stm → Str
  | .set _ _ => "set"
  | .ask _ => "ask"
  | .tell _ => "tell"
  | .check _ => "check"
  | .need _ => "need"
  | .ret _ => "return"
  | .ite _ _ _ => "if"
  | .loop _ _ => "while"
  | .call _ _ _ => "call"
theorem tag_if {s : Stm} (h : tagS s = "if") : ∃ c a b, s = .ite c a b := by
  cases s <;> first | exact ⟨_, _, _, rfl⟩ | (simp only [tagS] at h; exact absurd h (by decide +kernel))
theorem tag_while {s : Stm} (h : tagS s = "while") : ∃ c b, s = .loop c b := by
  cases s <;> first | exact ⟨_, _, rfl⟩ | (simp only [tagS] at h; exact absurd h (by decide +kernel))
theorem tag_call {s : Stm} (h : tagS s = "call") : ∃ f vs t, s = .call f vs t := by
  cases s <;> first | exact ⟨_, _, _, rfl⟩ | (simp only [tagS] at h; exact absurd h (by decide +kernel))
theorem tag_sa {s : Stm} (h : tagS s = "set" ∨ tagS s = "ask") : (∃ x e, s = .set x e) ∨ ∃ x, s = .ask x := by
  rcases h with h | h
  · cases s <;> first | exact .inl ⟨_, _, rfl⟩ | (simp only [tagS] at h; exact absurd h (by decide +kernel))
  · cases s <;> first | exact .inr ⟨_, rfl⟩ | (simp only [tagS] at h; exact absurd h (by decide +kernel))
theorem blks_no {s : Stm} (h1 : tagS s ≠ "if") (h2 : tagS s ≠ "while") : blks s = [] := by
  cases s <;> first | rfl | exact absurd rfl h1 | exact absurd rfl h2
theorem tgt_no {s : Stm} (h1 : tagS s ≠ "set") (h2 : tagS s ≠ "ask") (h3 : tagS s ≠ "call") : tgt s = none := by
  cases s <;> first | rfl | exact absurd rfl h1 | exact absurd rfl h2 | exact absurd rfl h3
theorem encS_tag (s : Stm) : ∃ ds, encS s = .tuple (.str (tagS s) :: ds) := by
  cases s <;> exact ⟨_, by simp only [encS, tagS]; rfl⟩
theorem encS_ite (c : PyData) (a b : List Stm) : encS (.ite c a b) = .tuple [.str "if", c, encB a, encB b] := by simp only [encS, encL_map]
theorem encS_loop (c : PyData) (b : List Stm) : encS (.loop c b) = .tuple [.str "while", c, encB b] := by simp only [encS, encL_map]
theorem Rp.tag {K : PySem.W.Frag} {H : Hp} {v : V} {s : Stm} (h : Rp K H v (encS s)) : ∃ a vs, v = .ref a ∧ SqT K H a (.str (tagS s) :: vs) := by
  obtain ⟨ds, e⟩ := encS_tag s
  rw [e] at h
  obtain ⟨a, vs, rfl, hs, r⟩ := h.tup_inv
  cases r with
  | cons h t => cases h; exact ⟨_, _, rfl, hs⟩

theorem at0 {x : V} {ws : List V} : atI (x :: ws) 0 = some x := atI_nat (j := 0) rfl
def spBlks (K : PySem.W.Frag) : Sp := fun vs H Q _ => ∃ (v : V) (s : Stm), vs = [v] ∧ Rp K H v (encS s) ∧ ∀ u H', Kp none H H' → Rp K H' u (.tuple ((blks s).map encB)) → Q u H'
def spTgt (K : PySem.W.Frag) : Sp := fun vs H Q _ => ∃ (v : V) (s : Stm), vs = [v] ∧ Rp K H v (encS s) ∧ ∀ u H', Kp none H H' → Rp K H' u (optD (tgt s)) → Q u H'
def spParams (K : PySem.W.Frag) : Sp := fun vs H Q _ => ∃ (v : V) (nm : Str) (g : Pg) (p : Pr), vs = [v, .str nm] ∧ Rp K H v (encPg g) ∧ findPr g nm = some p ∧ ∀ u H', Kp none H H' → Rp K H' u (.tuple (p.ps.map .str)) → Q u H'
def spAll (K : PySem.W.Frag) (n : Nat) : Sp := fun vs H Q _ => ∃ (v : V) (b : List Stm), vs = [v] ∧ Rp K H v (encB b) ∧ depL b ≤ n ∧ (allL b).length ≤ 1000 ∧ ∀ p H', Kp none H H' → H p = none → Ls K H' p ((allL b).map encS) → Q (.ref p) H'
section
variable {P : Program} {w : World} {K : PySem.W.Frag} {mg : Str → Option Value} {base : Heap}
abbrev s_blocks_of : Stmt := top 5
abbrev N_blocks_of : List Str := ["statement"]
theorem sc_blocks_of : FnScope N_blocks_of ["statement"] (defScope s_blocks_of) := ⟨rfl, rfl, rfl, by decide +kernel, rfl, by decide +kernel, by decide +kernel⟩
theorem ok_blocks_of (D : Df K mg "blocks_of" s_blocks_of ["statement"]) : Kn P w K mg base 1 "blocks_of" ["statement"] (spBlks K) := by
  refine D.ok sc_blocks_of (fun vs H Q E h => ?_) (fun f cdv A outer s H vs Q E hr h => ?_)
  · obtain ⟨v, s, rfl, _⟩ := h
    rfl
  obtain ⟨v, st, rfl, hv, q⟩ := h
  refine ⟨_, (pss_cons (ps_if (pt_cmpR op_eq (pe_ix ix_tup (pv 0) pe_int (fun _ _ => rfl)) pe_str (nomark _)) (pss_one (ps_ret (pe_tup (pa_cons (pe_ix ix_tup (pv 0) pe_int (fun _ _ => rfl)) (pa_cons (pe_ix ix_tup (pv 0) pe_int (fun _ _ => rfl)) pa_nil))))) pss_nil)
    (pss_cons (ps_if (pt_cmpR op_eq (pe_ix ix_tup (pv 0) pe_int (fun _ _ => rfl)) pe_str (nomark _)) (pss_one (ps_ret (pe_tup (pa_cons (pe_ix ix_tup (pv 0) pe_int (fun _ _ => rfl)) pa_nil)))) pss_nil)
    (pss_one (ps_ret (pe_tup pa_nil))))), ?_⟩
  obtain ⟨a, ws, rfl, hs⟩ := hv.tag
  refine ⟨_, rfl, _, _, _, _, rfl, rfl, hs, at0, rfl, _, rfl, ?_⟩
  refine ite2 (fun hx => ?_) (fun hx => ?_)
  · obtain ⟨c, b1, b2, rfl⟩ := tag_if (s := st) (by simpa using hx)
    rw [encS_ite] at hv
    obtain ⟨a', v1, v2, v3, v4, e, hs', r1, r2, r3, r4⟩ := hv.t4
    cases e
    refine ⟨_, rfl, _, _, _, _, rfl, rfl, hs', rfl, _, rfl, _, _, _, _, rfl, rfl, hs', rfl, small_le (by simp), fun p hp => ?_⟩
    exact q _ _ ((Kp.refl _).new hp) (Rp.mk hp (.cons r3 (.cons r4 .nil)))
  have h1 : tagS st ≠ "if" := by simpa using hx
  refine ⟨_, rfl, _, _, _, _, rfl, rfl, hs, at0, rfl, _, rfl, ?_⟩
  refine ite2 (fun hx => ?_) (fun hx => ?_)
  · obtain ⟨c, b1, rfl⟩ := tag_while (s := st) (by simpa using hx)
    rw [encS_loop] at hv
    obtain ⟨a', v1, v2, v3, e, hs', r1, r2, r3⟩ := hv.t3
    cases e
    refine ⟨_, rfl, _, _, _, _, rfl, rfl, hs', rfl, small_le (by simp), fun p hp => ?_⟩
    exact q _ _ ((Kp.refl _).new hp) (Rp.mk hp (.cons r3 .nil))
  have h2 : tagS st ≠ "while" := by simpa using hx
  refine ⟨small_le (by simp), fun p hp => ?_⟩
  refine q _ _ ((Kp.refl _).new hp) ?_
  rw [blks_no h1 h2]
  exact Rp.mk hp .nil

abbrev s_target_of : Stmt := top 7
abbrev N_target_of : List Str := ["statement"]
theorem sc_target_of : FnScope N_target_of ["statement"] (defScope s_target_of) := ⟨rfl, rfl, rfl, by decide +kernel, rfl, by decide +kernel, by decide +kernel⟩
theorem inV_pair (x a b : Str) : inV (.str x) [.str a, .str b] = (decide (x = a) || decide (x = b)) := by
  simp only [inV, List.any_cons, List.any_nil, Bool.or_false, eqV]
  have h : ∀ c : Str, (c == x) = decide (x = c) := fun c => by
    rw [Bool.eq_iff_iff, beq_iff_eq, decide_eq_true_eq]
    exact eq_comm
  rw [h, h]
theorem ok_target_of (D : Df K mg "target_of" s_target_of ["statement"]) : Kn P w K mg base 1 "target_of" ["statement"] (spTgt K) := by
  refine D.ok sc_target_of (fun vs H Q E h => ?_) (fun f cdv A outer s H vs Q E hr h => ?_)
  · obtain ⟨v, s, rfl, _⟩ := h
    rfl
  obtain ⟨v, st, rfl, hv, q⟩ := h
  refine ⟨_, (pss_cons (ps_if (pt_cmpR op_in_seq (pe_ix ix_tup (pv 0) pe_int (fun _ _ => rfl)) (pe_tup (pa_cons pe_str (pa_cons pe_str pa_nil))) rfl) (pss_one (ps_ret (pe_ix ix_tup (pv 0) pe_int (fun _ _ => rfl)))) pss_nil)
    (pss_cons (ps_if (pt_cmpR op_eq (pe_ix ix_tup (pv 0) pe_int (fun _ _ => rfl)) pe_str (nomark _)) (pss_one (ps_ret (pe_ix ix_tup (pv 0) pe_int (fun _ _ => rfl)))) pss_nil)
    (pss_one (ps_ret pe_non)))), ?_⟩
  obtain ⟨a, ws, rfl, hs⟩ := hv.tag
  refine ⟨_, rfl, _, _, _, _, rfl, rfl, hs, at0, small_le (by simp), fun p hp => ?_⟩
  have k1 : Kp none H (upd H p (.tup [.str "set", .str "ask"])) := (Kp.refl _).new hp
  refine ⟨p, _, rfl, .inr (.inl (.inl upd_same)), rfl, rfl, _, rfl, ?_⟩
  rw [inV_pair]
  refine ite2 (fun hx => ?_) (fun hx => ?_)
  · rcases tag_sa (s := st) (by simpa using hx) with ⟨x, e, rfl⟩ | ⟨x, rfl⟩
    · simp only [encS] at hv
      obtain ⟨a', v1, v2, v3, e, hs', r1, r2, r3⟩ := hv.t3
      cases e
      exact ⟨_, rfl, _, _, _, _, rfl, rfl, k1.tle.seqT hs', rfl, q _ _ k1 (r2.mono k1.tle)⟩
    · simp only [encS] at hv
      obtain ⟨a', v1, v2, e, hs', r1, r2⟩ := hv.t2
      cases e
      exact ⟨_, rfl, _, _, _, _, rfl, rfl, k1.tle.seqT hs', rfl, q _ _ k1 (r2.mono k1.tle)⟩
  have h1 : ¬ (tagS st = "set" ∨ tagS st = "ask") := by simpa using hx
  refine ⟨_, rfl, _, _, _, _, rfl, rfl, k1.tle.seqT hs, at0, rfl, _, rfl, ?_⟩
  refine ite2 (fun hx => ?_) (fun hx => ?_)
  · obtain ⟨g, us, t, rfl⟩ := tag_call (s := st) (by simpa using hx)
    simp only [encS] at hv
    obtain ⟨a', v1, v2, v3, v4, e, hs', r1, r2, r3, r4⟩ := hv.t4
    cases e
    exact ⟨_, rfl, _, _, _, _, rfl, rfl, k1.tle.seqT hs', rfl, q _ _ k1 (r4.mono k1.tle)⟩
  have h2 : tagS st ≠ "call" := by simpa using hx
  refine q _ _ k1 ?_
  rw [tgt_no (fun e => h1 (.inl e)) (fun e => h1 (.inr e)) h2]
  exact .non

abbrev s_parameters : Stmt := top 8
abbrev N_parameters : List Str := ["program", "name"]
theorem sc_parameters : FnScope N_parameters ["program", "name"] (defScope s_parameters) := ⟨rfl, rfl, rfl, by decide +kernel, rfl, by decide +kernel, by decide +kernel⟩
theorem ok_parameters (D : Df K mg "parameters" s_parameters ["program", "name"]) (G_procedure_of : Kn P w K mg base 1 "procedure_of" ["program", "name"] (spProcOf K)) :
    Kn P w K mg base 2 "parameters" ["program", "name"] (spParams K) := by
  refine D.ok sc_parameters (fun vs H Q E h => ?_) (fun f cdv A outer s H vs Q E hr h => ?_)
  · obtain ⟨v, nm, g, p, rfl, _⟩ := h
    rfl
  obtain ⟨v, nm, g, p, rfl, hv, hf, q⟩ := h
  refine ⟨_, (pss_one (ps_ret (pe_ix ix_tup (pe_kn G_procedure_of hr (pa_cons (pv 0) (pa_cons (pv 1) pa_nil))) pe_int (fun _ _ => rfl)))), ?_⟩
  refine ⟨_, rfl, _, rfl, v, nm, g, p, rfl, hv, hf, fun u H' k r => ?_⟩
  obtain ⟨a, v1, v2, v3, rfl, hs, r1, r2, r3⟩ := r.t3
  exact ⟨_, _, _, _, rfl, rfl, hs, rfl, q _ _ k r2⟩

abbrev s_all_statements : Stmt := top 6
abbrev N_all_statements : List Str := ["block", "found", "statement", "inner"]
theorem sc_all_statements : FnScope N_all_statements ["block"] (defScope s_all_statements) := ⟨rfl, rfl, rfl, by decide +kernel, rfl, by decide +kernel, by decide +kernel⟩
theorem ok_all_step {n : Nat} (D : Df K mg "all_statements" s_all_statements ["block"]) (G_blocks_of : Kn P w K mg base 1 "blocks_of" ["statement"] (spBlks K))
    (G_all_statements : Kn P w K mg base (n + 1) "all_statements" ["block"] (fun vs H Q E => ∃ j, j < n ∧ spAll K j vs H Q E)) : Kn P w K mg base (n + 2) "all_statements" ["block"] (spAll K n) := by
  refine D.ok sc_all_statements (fun vs H Q E h => ?_) (fun f cdv A outer s H vs Q E hr h => ?_)
  · obtain ⟨v, b, rfl, _⟩ := h
    rfl
  obtain ⟨v, b, rfl, hv, hdep, hlen, q⟩ := h
  refine ⟨_, (pss_cons (ps_set (i := 1) sc_all_statements.nd rfl (by first | exact Or.inl rfl | exact Or.inr rfl) (pe_lst pa_nil))
    (pss_cons (ps_for PassesOwn.never rfl (pi_tup (pv 0)) (pg_name (i := 2) sc_all_statements.nd rfl (by first | exact Or.inl rfl | exact Or.inr rfl)) (pss_cons (ps_expr (pe_bm PySem.F.plainAttrs_list PySem.F.slot_list_append PySem.F.type_list_append mt_append (pv 1) (pa_cons (pv 2) pa_nil)))
      (pss_one (ps_for PassesOwn.never rfl (pi_tup (pe_kn G_blocks_of hr (pa_cons (pv 2) pa_nil) (by omega))) (pg_name (i := 3) sc_all_statements.nd rfl (by first | exact Or.inl rfl | exact Or.inr rfl)) (pss_one (ps_expr (pe_bm PySem.F.plainAttrs_list PySem.F.slot_list_extend PySem.F.type_list_extend mt_extend (pv 1) (pa_cons (pe_kn G_all_statements hr (pa_cons (pv 3) pa_nil) (by omega)) pa_nil))))))))
    (pss_one (ps_ret (pv 1))))), ?_⟩
  obtain ⟨a, ws, rfl, hs, r0⟩ := hv.tup_inv
  refine ⟨Nat.zero_le _, fun p hp => ?_⟩
  have k0 : Kp none H (upd H p (.lst [])) := (Kp.refl _).new hp
  refine ⟨_, rfl, a, rfl, ⟨_, k0.tle.seqT hs⟩, for_dt encS b (k0.tle.seqT hs) (r0.mono k0.tle)
    (fun l σ' H' => (∃ y z, σ' = [some (.ref a), some (.ref p), y, z]) ∧ Kp none H H' ∧ TLe (upd H p (.lst [])) H' ∧ Ls K H' p ((allL l).map encS))
    ⟨⟨_, _, rfl⟩, k0, TLe.refl _, [], upd_same, .nil⟩ (fun l σ' H' z => z.2.2.1) ?_ ?_⟩
  · rintro pre x post y σ' H' e ry ⟨⟨z1, z2, rfl⟩, k1, t1, vs1, hl1, rl1⟩
    have hlen1 : (allL pre).length + (allS x).length ≤ 1000 := by
      rw [e, allL_append] at hlen
      simp only [allL, List.length_append] at hlen
      omega
    have hl2 : vs1.length = (allL pre).length := by rw [rl1.len, List.length_map]
    have hx1 : 1 ≤ (allS x).length := by rw [allS_blks]; simp
    have hdx : depS x ≤ n := Nat.le_trans (depL_mem (by rw [e]; simp)) hdep
    -- found.append(statement)
    refine ⟨_, rfl, .inl ⟨rfl, _, .inl (.inl hl1)⟩, _, rfl, p, vs1, y, rfl, rfl, hl1, small_lt (by omega), ?_⟩
    have k2 : Kp none H (upd H' p (.lst (vs1 ++ [y]))) := k1.put hp
    have t2 : TLe H' (upd H' p (.lst (vs1 ++ [y]))) := TLe.put hl1
    have rl2 : RpA K (upd H' p (.lst (vs1 ++ [y]))) (vs1 ++ [y]) ((allL pre ++ [x]).map encS) := by
      rw [List.map_append]
      exact (rl1.snoc ry).mono t2
    -- for inner in blocks_of(statement)
    refine ⟨_, rfl, y, x, rfl, ry.mono t2, fun u H3 k3 r3 => ?_⟩
    obtain ⟨c, us, rfl, hc, rc⟩ := r3.tup_inv
    have h3 : H3 p = some (.lst (vs1 ++ [y])) := k3.of upd_same
    refine ⟨c, rfl, ⟨_, hc⟩, for_dt encB (blks x) hc rc
      (fun l σ' H' => (∃ z, σ' = [some (.ref a), some (.ref p), some y, z]) ∧ Kp none H H' ∧ TLe H3 H' ∧ Ls K H' p ((allL pre ++ x :: l.flatMap allL).map encS))
      ⟨⟨_, rfl⟩, k2.trans k3, TLe.refl _, _, h3, rl2.mono k3.tle⟩ (fun l σ' H' z => z.2.2.1) ?_ ?_⟩
    · rintro pb bb qb yb σ4 H4 eb rb ⟨⟨z3, rfl⟩, k4, t4, vs4, hl4, rl4⟩
      have hbm : bb ∈ blks x := by rw [eb]; simp
      have hlen4 : (allL pre).length + (1 + (pb.flatMap allL).length + (allL bb).length) ≤ 1000 := by
        have h5 := allS_blks x
        rw [eb] at h5
        have h6 := congrArg List.length h5
        simp only [List.length_cons, List.flatMap_append, List.flatMap_cons, List.length_append] at h6
        omega
      have hl5 : vs4.length = (allL pre).length + (1 + (pb.flatMap allL).length) := by
        rw [rl4.len, List.length_map, List.length_append, List.length_cons]; omega
      refine ⟨_, rfl, .inl ⟨rfl, _, .inl (.inl hl4)⟩, _, rfl, depL bb, Nat.lt_of_lt_of_le (depS_blk hbm) hdx, yb, bb, rfl, rb, Nat.le_refl _, by omega, fun p5 H5 k5 n5 ls5 => ?_⟩
      obtain ⟨vs5, hl6, rl5⟩ := ls5
      have hp5 : H5 p = some (.lst vs4) := k5.of hl4
      have hl7 : vs5.length = (allL bb).length := by rw [rl5.len, List.length_map]
      refine ⟨p, p5, vs4, vs5, rfl, rfl, hp5, hl6, small_le (by omega), ⟨⟨_, rfl⟩, (k4.trans k5).put hp, (t4.trans k5.tle).trans (TLe.put hp5), _, upd_same, ?_⟩⟩
      have r9 := (rl4.mono k5.tle).app rl5
      rw [← List.map_append] at r9
      have e9 : allL pre ++ x :: pb.flatMap allL ++ allL bb = allL pre ++ x :: (pb ++ [bb]).flatMap allL := by simp
      rw [e9] at r9
      exact r9.mono (TLe.put hp5)
    · rintro σ4 H4 ⟨⟨z3, rfl⟩, k4, t4, l4⟩
      refine ⟨⟨_, _, rfl⟩, k4, ((t1.trans t2).trans k3.tle).trans t4, ?_⟩
      have e9 : allL pre ++ x :: (blks x).flatMap allL = allL (pre ++ [x]) := by
        rw [allL_append]; simp [allL, allS_blks x]
      rw [e9] at l4
      exact l4
  · rintro σ4 H4 ⟨⟨z3, z4, rfl⟩, k4, t4, l4⟩
    exact ⟨_, rfl, q _ _ k4 hp l4⟩
theorem ok_all (D : Df K mg "all_statements" s_all_statements ["block"]) (G_blocks_of : Kn P w K mg base 1 "blocks_of" ["statement"] (spBlks K)) :
    ∀ n, Kn P w K mg base (n + 2) "all_statements" ["block"] (spAll K n) := by
  intro n
  induction n with
  | zero => exact ok_all_step (n := 0) D G_blocks_of (by
      obtain ⟨f, fd, F, b, m⟩ := D
      refine ⟨f, fd, ⟨fun vs H Q E h => ?_, fun A outer s H args us vs Q E _ _ _ _ h => ?_⟩, b, m, F.kp⟩
      · obtain ⟨j, hj, _⟩ := h; omega
      · obtain ⟨j, hj, _⟩ := h; omega)
  | succ n ih => exact ok_all_step (n := n + 1) D G_blocks_of (ih.imp fun vs H Q E h => by
      obtain ⟨j, hj, v, b, rfl, h1, h2, h3⟩ := h
      exact ⟨v, b, rfl, h1, by omega, h3⟩)
end
end Cl

/-! Rules that the layer lacks: enumerate over a tuple, zip of a tuple and a list. -/
namespace Cl
open PySem PySem.Spec PyProof.Rows L2

set_option maxHeartbeats 1000000 in
/-- enumerate(t): what its __new__ leaves -/
theorem enum_new (t : Addr) (items : Array Value) :
    Meets (Builtin.«enumerate.__new__» ⟨[.type "enumerate", .ref t], []⟩) (fun _ R s => s.heap.IsTuple t items ∧
      R (.ok (.ret (.ref (s.heap.push { cls := .type "tuple_iterator", data := .fields #[.ref t, .int 0 0] }).objs.size)))
        { s with heap := (s.heap.push { cls := .type "tuple_iterator", data := .fields #[.ref t, .int 0 0] }).push { cls := .type "enumerate", data := .fields #[.none, .bool false, .ref s.heap.objs.size, rawInt 0, .none, .none] } }) :=
  .of_wp fun prog w A R s h => by
    obtain ⟨hp, g, d, tk, os⟩ := s
    obtain ⟨ht, h⟩ := h
    have hsub := sub_enumerate
    have hT : Heap.IsTuple (Shared.heap ⟨hp, g, d, tk, os⟩) t items := ht
    wp_walk using wpAny_pyIter_tuple hT
    refine wpAny_stack_any fun st => wpAny_pure ?_
    split
    · rename_i c _ _ _ _ _
      cases (c == Value.type "enumerate") <;> (wp_walk using wpAny_pyIter_tuple hT; exact ⟨_, rfl, h⟩)
    · wp_walk using wpAny_pyIter_tuple hT
      exact ⟨_, rfl, h⟩
theorem enum_call {prog : Program} {w : World} {A : Around} {E : Value → Shared → Prop} {s : Shared} {t : Addr} {items : Array Value} {Q : Value → Shared → Prop} (hT : s.heap.IsTuple t items)
    (h : ∀ h', IsEnum h' (s.heap.objs.size + 1) s.heap.objs.size 0 .none → h'.IsTupleIter s.heap.objs.size t 0 → (∀ b o, s.heap.get? b = some o → h'.get? b = some o) → Q (.ref (s.heap.objs.size + 1)) { s with heap := h' }) :
    wpAny (model prog w) A (call (.type "enumerate") [.ref t]) Q E s := by
  refine callType_new F.called_enumerate (by decide) (F.typeCall_enumerate_1 _) (F.newCall_enumerate_1 _) (fun obj => F.args_object_init_2 obj _) F.entry_enumerate_new (enum_new t items) ⟨hT, ?_⟩
  generalize hi : ({ cls := .type "tuple_iterator", data := .fields #[.ref t, .int 0 0] } : Obj) = io
  generalize he : ({ cls := .type "enumerate", data := .fields #[.none, .bool false, .ref s.heap.objs.size, rawInt 0, .none, .none] } : Obj) = eo
  have z1 : (s.heap.push io).objs.size = s.heap.objs.size + 1 := Heap.size_push ..
  have g1 : ((s.heap.push io).push eo).get? (s.heap.objs.size + 1) = some eo := by
    rw [← z1]
    exact Heap.get?_push_size _ (by rw [← he]; rfl)
  have g0 : ((s.heap.push io).push eo).get? s.heap.objs.size = some io := Heap.get?_push_of_some _ (Heap.get?_push_size _ (by rw [← hi]; rfl))
  show _ ∧ _
  rw [z1]
  refine ⟨⟨eo, g1, by rw [← he]⟩, h _ (g1.trans (by rw [← he])) ⟨io, g0, by rw [← hi], by rw [← hi]; rfl⟩ fun b o e => Heap.get?_push_of_some _ (Heap.get?_push_of_some _ e)⟩

/-- what enumerate over the tuple at a gives: pairs of the place and the item -/
def Iet (K : PySem.W.Frag) (a : Addr) (xs : List V) : It :=
  ⟨fun i H => SqT K H a xs ∧ i < xs.length, fun i H v H' => ∃ T x, v = .ref T ∧ H T = none ∧ H' = upd H T (.tup [.int (i : Nat), x]) ∧ xs[i]? = some x, fun i H => SqT K H a xs ∧ i = xs.length⟩
theorem turn_enumT {P : Program} {w : World} {K : PySem.W.Frag} {elts : List Expr} {kk : Nat} {tpos : Pos} (a e it : Addr) (xs : List V) :
    Turn P w K (.Tuple elts kk tpos) (Iet K a xs) [e, it] e (fun i h => (∃ old, IsEnum h e it ((i : Nat) : Int) old) ∧ h.IsTupleIter it a i ∧ e ≠ it) where
  mem := List.mem_cons_self
  obj := fun i h st b hb => by
    obtain ⟨⟨old, he⟩, ⟨o, ho, hc, hd⟩, _⟩ := st
    rcases List.mem_cons.mp hb with rfl | hb
    · exact ⟨_, he, fun v q => nomatch q⟩
    · rw [List.mem_singleton.mp hb]
      exact ⟨o, ho, fun v q => by rw [hd] at q; cases q⟩
  keep := fun i h h' st k => ⟨st.1.imp fun old he => k e List.mem_cons_self _ he, st.2.1.at fun o q => k it (by simp) o q, st.2.2⟩
  item := by
    intro X hP hw hK hc i pins s σ H E I hf st hg
    subst hP hw hK
    obtain ⟨⟨old, he⟩, hit, hne⟩ := st
    obtain ⟨hq, hlt⟩ := hg
    obtain ⟨its, rv, p, hz⟩ := I.tuple hq
    have hT : s.heap.IsTuple a its.toArray := p
    have hal : a < s.heap.objs.size := p.lt
    have hea : e ≠ a := fun z => by
      obtain ⟨o, ho, hc', _⟩ := hT
      rw [← z] at ho
      rw [show s.heap.get? e = _ from he] at ho
      cases ho
      exact absurd (show Value.type "enumerate" = Value.type "tuple" from hc') (by decide)
    have hia : a ≠ it := fun z => by
      obtain ⟨o, ho, hc', _⟩ := hT
      obtain ⟨o', ho', hc'', _⟩ := hit
      rw [z, ho'] at ho
      cases ho
      exact absurd (show Value.type "tuple_iterator" = Value.type "tuple" from hc''.symm.trans hc') (by decide)
    have hel : e < s.heap.objs.size := Heap.lt_size he
    have hil : it < s.heap.objs.size := by obtain ⟨_, q, _⟩ := hit; exact Heap.lt_size q
    have hn : i < its.toArray.size := by rw [List.size_toArray, ← rv.length]; exact hlt
    refine wpAny_pyNext_enum_itemC (c := ((i : Nat) : Int)) (Draws.tuple (prog := X.prog) (w := X.w) (A := X.A.in1) (I.ok.hd hc) it a hia its.toArray) he ⟨hit, hT⟩ hn hne (by simp [hne, hea]) fun u h' tk hu ho hst hTn hsz hk => ?_
    refine ⟨_, rfl, wpAny_letOwnedTupleGo_enum (s := { s with heap := h', toks := tk + 1 }) ho fun h'' he' sb => ?_⟩
    obtain ⟨x, hx, ru⟩ : ∃ x, xs[i]? = some x ∧ RelV x u := by
      obtain ⟨u', hu', ru'⟩ := rv.get (List.getElem?_eq_getElem hlt)
      have hu2 : its[i]? = some u := by simpa using hu
      rw [hu2] at hu'
      cases hu'
      exact ⟨_, List.getElem?_eq_getElem hlt, ru'⟩
    have hT2 : h''.get? s.heap.objs.size = some { cls := .type "tuple", data := .seq #[.int i tk, u] } := (sb.2 _ (Nat.ne_of_gt hel)).trans hTn
    have nw : ObjOk X.prog X.w (upd H s.heap.objs.size (.tup [.int (i : Nat), x])) h'' s.heap.objs.size (.tup [.int (i : Nat), x]) :=
      ⟨by show 2 ≤ sizeLine; decide, [.int i tk, u], .cons ⟨_, rfl⟩ (.cons ru .nil), ⟨_, hT2, rfl, _, rfl⟩⟩
    have I1 : Inv X pins σ (upd H s.heap.objs.size (.tup [.int (i : Nat), x])) { s with heap := h'', toks := tk + 1 } := by
      refine I.turnedNew (ch := [e, it]) (fun b ob hb q => ?_) hf (Nat.le_refl _) nw
      have b1 : b ≠ e := fun z => hb (by simp [z])
      have b2 : b ≠ it := fun z => hb (by simp [z])
      exact (sb.2 b b1).trans (hk b ob b1 b2 q)
    refine ⟨.ref s.heap.objs.size, _, I1, rfl, ⟨_, x, rfl, I.hok.fresh (Nat.le_refl _), rfl, hx⟩, ⟨⟨u, ?_⟩, hst.1.at fun o q => (sb.2 it (Ne.symm hne)).trans q, hne⟩, fun b hb => ?_⟩
    · rw [show ((i + 1 : Nat) : Int) = (i : Int) + 1 by omega]
      exact he'
    · have hb' : b ≠ s.heap.objs.size := by
        rcases List.mem_cons.mp hb with z | z
        · rw [z]; exact Nat.ne_of_lt hel
        · rw [List.mem_singleton.mp z]; exact Nat.ne_of_lt hil
      rw [upd_ne hb']
      exact (hf b hb).1
  done := by
    intro X hP hw hK hc i pins s σ H E I hf st hg
    subst hP hw hK
    obtain ⟨⟨old, he⟩, hit, hne⟩ := st
    obtain ⟨hq, hle⟩ := hg
    obtain ⟨its, rv, p, hz⟩ := I.tuple hq
    have hT : s.heap.IsTuple a its.toArray := p
    have hia : a ≠ it := fun z => by
      obtain ⟨o, ho, hc', _⟩ := hT
      obtain ⟨o', ho', hc'', _⟩ := hit
      rw [z, ho'] at ho
      cases ho
      exact absurd (show Value.type "tuple_iterator" = Value.type "tuple" from hc''.symm.trans hc') (by decide)
    obtain ⟨f0, f1, f2, f3, f4, f5⟩ := hf it (by simp)
    have hn : i = its.toArray.size := by rw [List.size_toArray, ← rv.length]; exact hle
    subst hn
    have D0 := Draws.tuple (prog := X.prog) (w := X.w) (A := X.A.in1) (I.ok.hd hc) it a hia its.toArray
    exact wpAny_pyNext_enum_endD D0 he ⟨hit, hT⟩ fun h' eb => ⟨rfl, I.turned (t' := s.toks) (fun b o hb q => eb b o hb q) f0 f1 f3 f4 f5⟩
  self := fun A i s Q E st h => let ⟨⟨_, he⟩, _⟩ := st; wpAny_pyIter_enum he h
def iEnumT (K : PySem.W.Frag) (ta : TA) : TI := fun σ H R => ta σ H fun vs H1 => ∃ a xs, vs = [.ref a] ∧ SqT K H1 a xs ∧ R (Iet K a xs) H1
theorem pi_enumT {X : Cx} {e : Expr} {ta : TA} {p pos tpos : Pos} {elts : List Expr} {kk : Nat} (hg : Gl X "enumerate") (hm : X.mg "enumerate" = none) (ha : PA X [e] ta) (hs : starEach [e] X.env = [(false, eval e X.env)] := by rfl) :
    PI X (.Tuple elts kk tpos) (.Call (.Name "enumerate" p) [e] [] pos) (iEnumT X.K ta) := by
  refine ⟨fun pins s σ H R I h => ?_⟩
  refine Call_ (ld_blt I hg hm boot_enumerate (PyProof.Rows.callWith_type1 (thn (ha.run pos pins s σ H _ I h) fun us s1 ⟨vs, H1, I1, r1, q1⟩ => ?_) hs rfl))
  obtain ⟨a, xs, rfl, hq, q⟩ := q1
  obtain ⟨u, rfl, ru⟩ := r1.one
  cases ru
  obtain ⟨its, rv, p', hz⟩ := I1.tuple hq
  refine enum_call (items := its.toArray) p' fun h' he hit hk => wpAny_pyIter_enum he ?_
  have I2 : Inv X pins σ H1 { s1 with heap := h' } := I1.kept (t' := s1.toks) hk
  refine ⟨s1.heap.objs.size + 1, [s1.heap.objs.size + 1, s1.heap.objs.size], _, _, H1, rfl, I2, turn_enumT a _ _ xs, ⟨⟨.none, he⟩, hit, Nat.succ_ne_self _⟩, fun b hb => ?_, q⟩
  have hle : s1.heap.objs.size ≤ b := by
    rcases List.mem_cons.mp hb with z | z
    · rw [z]; exact Nat.le_succ _
    · rw [List.mem_singleton.mp z]; exact Nat.le_refl _
  exact I1.fpOk hle (I1.hok.fresh hle)
theorem walk_enumT {K : PySem.W.Frag} {a : Addr} {xs : List V} : Walk (Iet K a xs) xs.length (fun H => SqT K H a xs) (YPair (fun i => some (.int (i : Nat))) (fun i => xs[i]?)) := by
  refine ⟨fun i _ hi q => ⟨q, hi⟩, fun _ q => ⟨q, rfl⟩, fun i H v H' _ q y => ?_⟩
  obtain ⟨T, x, h1, h2, h3, h4⟩ := y
  exact ⟨T, _, x, h1, h2, h3, rfl, h4⟩
end Cl

/-! zip of a tuple and a list of one length. -/
namespace Cl
open PySem PySem.Spec PyProof.Rows L2

/-- zip(t, l): the tuple at a and the list at b, both xs and ys long n -/
def Izm (K : PySem.W.Frag) (a b : Addr) (xs ys : List V) : It :=
  ⟨fun i H => (SqT K H a xs ∧ SqL K H b ys ∧ xs.length = ys.length) ∧ i < xs.length,
    fun i H v H' => ∃ T x y, v = .ref T ∧ H T = none ∧ H' = upd H T (.tup [x, y]) ∧ xs[i]? = some x ∧ ys[i]? = some y,
    fun i H => (SqT K H a xs ∧ SqL K H b ys ∧ xs.length = ys.length) ∧ i = xs.length⟩
theorem turn_zm {P : Program} {w : World} {K : PySem.W.Frag} {elts : List Expr} {kk : Nat} {tpos : Pos} {a b N : Addr} (xs ys : List V) (ha : a < N) (hb : b < N) :
    Turn P w K (.Tuple elts kk tpos) (Izm K a b xs ys) [N + 4, N + 2, N + 3, N, N + 1] (N + 4)
      (fun i h => IsZip h (N + 4) (N + 2) (N + 3) .none ∧ IsTupOf2 h (N + 2) (.ref N) (.ref (N + 1)) ∧ (∃ x y, IsTupOf2 h (N + 3) x y) ∧ h.IsTupleIter N a i ∧ h.IsListIter (N + 1) b i) where
  mem := List.mem_cons_self
  obj := fun i h st c hc => by
    obtain ⟨hz, hTI, ⟨x, y, hTO⟩, ⟨o1, e1, _, d1⟩, ⟨o2, e2, _, d2⟩⟩ := st
    simp only [List.mem_cons, List.not_mem_nil, or_false] at hc
    rcases hc with rfl | rfl | rfl | rfl | rfl
    · exact ⟨_, hz, fun v q => nomatch q⟩
    · exact ⟨_, hTI, fun v q => nomatch q⟩
    · exact ⟨_, hTO, fun v q => nomatch q⟩
    · exact ⟨o1, e1, fun v q => by rw [d1] at q; cases q⟩
    · exact ⟨o2, e2, fun v q => by rw [d2] at q; cases q⟩
  keep := fun i h h' st k => by
    obtain ⟨hz, hTI, ⟨x, y, hTO⟩, h1, h2⟩ := st
    exact ⟨k _ (by simp) _ hz, k _ (by simp) _ hTI, ⟨x, y, k _ (by simp) _ hTO⟩, h1.at fun o q => k _ (by simp) o q, h2.at fun o q => k _ (by simp) o q⟩
  item := by
    intro X hP hw hK hc i pins s σ H E I hf st hg
    subst hP hw hK
    obtain ⟨hz, hTI, ⟨x0, y0, hTO⟩, h1, h2⟩ := st
    obtain ⟨⟨hqx, hqy, hll⟩, hlt⟩ := hg
    obtain ⟨its, rv, p, _⟩ := I.tuple hqx
    obtain ⟨its2, rv2, p2, _⟩ := I.list hqy
    have S : ZipSep2 (N + 4) (N + 2) (N + 3) N (N + 1) (N :: [a]) ((N + 1) :: [b]) := zip_sep2 (by simpa using ha) (by simpa using hb)
    have D1 := Draws.tuple (prog := X.prog) (w := X.w) (A := X.A.in1) (I.ok.hd hc) N a (Nat.ne_of_lt ha) its.toArray
    have D2 := Draws.list (prog := X.prog) (w := X.w) (A := X.A.in1) (I.ok.hd hc) (N + 1) b (Nat.ne_of_lt (Nat.lt_succ_of_lt hb)) its2.toArray
    have l1 := rv.length
    have l2 := rv2.length
    refine wpAny_pyNext_zipD2_item S D1 D2 hz hTI hTO ⟨h1, p⟩ ⟨h2, p2.isList⟩ (by rw [List.size_toArray]; omega) (by rw [List.size_toArray]; omega) fun u u2 h' tk hu hu2 z' TO' s1' s2' hT hsz hk => ?_
    refine ⟨_, rfl, wpAny_letOwnedTupleGo_zip (s := { s with heap := h', toks := tk }) z' fun h'' z'' sb => ?_⟩
    obtain ⟨x, hx, ru⟩ : ∃ x, xs[i]? = some x ∧ RelV x u := by
      obtain ⟨u', hu', ru'⟩ := rv.get (List.getElem?_eq_getElem hlt)
      have q : its[i]? = some u := by simpa using hu
      rw [q] at hu'
      cases hu'
      exact ⟨_, List.getElem?_eq_getElem hlt, ru'⟩
    obtain ⟨y, hy, ru2⟩ : ∃ y, ys[i]? = some y ∧ RelV y u2 := by
      obtain ⟨u', hu', ru'⟩ := rv2.get (List.getElem?_eq_getElem (show i < ys.length by omega))
      have q : its2[i]? = some u2 := by simpa using hu2
      rw [q] at hu'
      cases hu'
      exact ⟨_, List.getElem?_eq_getElem (show i < ys.length by omega), ru'⟩
    have lz : N + 4 < s.heap.objs.size := Heap.lt_size hz
    have hT2 : h''.get? s.heap.objs.size = some { cls := .type "tuple", data := .seq #[u, u2] } := (sb.2 _ (Nat.ne_of_gt lz)).trans hT
    have nw : ObjOk X.prog X.w (upd H s.heap.objs.size (.tup [x, y])) h'' s.heap.objs.size (.tup [x, y]) :=
      ⟨by show 2 ≤ sizeLine; decide, [u, u2], .cons ru (.cons ru2 .nil), ⟨_, hT2, rfl, _, rfl⟩⟩
    have I1 : Inv X pins σ (upd H s.heap.objs.size (.tup [x, y])) { s with heap := h'', toks := tk } := by
      refine I.turnedNew (ch := [N + 4, N + 2, N + 3, N, N + 1]) (fun c o hb q => ?_) hf (Nat.le_refl _) nw
      simp only [List.mem_cons, List.not_mem_nil, or_false, not_or] at hb
      exact (sb.2 c hb.1).trans (hk c o hb.1 hb.2.2.1 hb.2.2.2.1 hb.2.2.2.2 q)
    refine ⟨.ref s.heap.objs.size, _, I1, rfl, ⟨_, x, y, rfl, I.hok.fresh (Nat.le_refl _), rfl, hx, hy⟩, ⟨z'', ?_, ⟨u, u2, ?_⟩, ?_, ?_⟩, fun c hcm => ?_⟩
    · exact (sb.2 _ S.TIz).trans (hk _ _ S.TIz S.TITO S.TIi1 S.TIi2 hTI)
    · exact (sb.2 _ S.TOz).trans TO'
    · exact s1'.1.at fun o q => (sb.2 _ (Ne.symm S.zi1)).trans q
    · exact s2'.1.at fun o q => (sb.2 _ (Ne.symm S.zi2)).trans q
    · have hlt2 : c ≠ s.heap.objs.size := by
        simp only [List.mem_cons, List.not_mem_nil, or_false] at hcm
        rcases hcm with q | q | q | q | q <;> rw [q] <;> exact Nat.ne_of_lt (by first | exact lz | exact Nat.lt_of_le_of_lt (by omega) lz)
      rw [upd_ne hlt2]
      exact (hf c hcm).1
  done := by
    intro X hP hw hK hc i pins s σ H E I hf st hg
    subst hP hw hK
    obtain ⟨hz, hTI, ⟨x0, y0, hTO⟩, h1, h2⟩ := st
    obtain ⟨⟨hqx, hqy, hll⟩, hle⟩ := hg
    obtain ⟨its, rv, p, _⟩ := I.tuple hqx
    obtain ⟨its2, rv2, p2, _⟩ := I.list hqy
    have S : ZipSep2 (N + 4) (N + 2) (N + 3) N (N + 1) (N :: [a]) ((N + 1) :: [b]) := zip_sep2 (by simpa using ha) (by simpa using hb)
    have D1 := Draws.tuple (prog := X.prog) (w := X.w) (A := X.A.in1) (I.ok.hd hc) N a (Nat.ne_of_lt ha) its.toArray
    have D2 := Draws.list (prog := X.prog) (w := X.w) (A := X.A.in1) (I.ok.hd hc) (N + 1) b (Nat.ne_of_lt (Nat.lt_succ_of_lt hb)) its2.toArray
    have l1 := rv.length
    have l2 := rv2.length
    refine wpAny_pyNext_zipD2_end S D1 D2 hz hTI hTO ⟨h1, p⟩ ⟨h2, p2.isList⟩ (by rw [List.size_toArray]; omega) (by rw [List.size_toArray]; omega) (.inl (by rw [List.size_toArray]; omega)) fun h' tk hk => ⟨rfl, ?_⟩
    refine I.turnedL (ch := [N + 4, N + 2, N + 3, N, N + 1]) (fun c o hb q => ?_) hf
    simp only [List.mem_cons, List.not_mem_nil, or_false, not_or] at hb
    exact hk c o hb.1 hb.2.2.1 hb.2.2.2.1 hb.2.2.2.2 q
  self := fun A i s Q E st h => wpAny_pyIter_zip st.1 h
def iZipTL (K : PySem.W.Frag) (ta : TA) : TI := fun σ H R => ta σ H fun vs H1 => ∃ a b xs ys, vs = [.ref a, .ref b] ∧ SqT K H1 a xs ∧ SqL K H1 b ys ∧ R (Izm K a b xs ys) H1
theorem pi_zipTL {X : Cx} {e e2 : Expr} {ta : TA} {p pos tpos : Pos} {elts : List Expr} {kk : Nat} (hg : Gl X "zip") (hm : X.mg "zip" = none) (ha : PA X [e, e2] ta)
    (hs : starEach [e, e2] X.env = (false, eval e X.env) :: starEach [e2] X.env := by rfl) (hpl : (backTo pos (starEach [e2] X.env)).any (·.1) = false := by rfl) :
    PI X (.Tuple elts kk tpos) (.Call (.Name "zip" p) [e, e2] [] pos) (iZipTL X.K ta) := by
  refine ⟨fun pins s σ H R I h => ?_⟩
  refine Call_ (ld_blt I hg hm PyProof.Rows.boot_zip (PyProof.Rows.callWith_type1 (thn (ha.run pos pins s σ H _ I h) fun us s1 ⟨vs, H1, I1, r1, q1⟩ => ?_) hs hpl))
  obtain ⟨a, b, xs, ys, rfl, hqx, hqy, q⟩ := q1
  obtain ⟨u, u2, rfl, ru, ru2⟩ := vals2 r1
  cases ru
  cases ru2
  obtain ⟨its, rv, p1, _⟩ := I1.tuple hqx
  obtain ⟨its2, rv2, p2, _⟩ := I1.list hqy
  have la : a < s1.heap.objs.size := p1.lt
  have lb : b < s1.heap.objs.size := p2.lt
  refine zip_begins2 (begins_tuple a its.toArray) (begins_list b its2.toArray) p1 p2.isList fun h' hz hTI hTO g1 g2 hsz hk => wpAny_pyIter_zip hz ?_
  have I2 : Inv X pins σ H1 { s1 with heap := h' } := I1.kept (t' := s1.toks) hk
  refine ⟨s1.heap.objs.size + 4, _, _, _, H1, rfl, I2, turn_zm xs ys la lb, ⟨hz, hTI, ⟨_, _, hTO⟩, ⟨_, g1, rfl, rfl⟩, ⟨_, g2, rfl, rfl⟩⟩, fun c hcm => ?_, q⟩
  have hle : s1.heap.objs.size ≤ c := by
    simp only [List.mem_cons, List.not_mem_nil, or_false] at hcm
    rcases hcm with z | z | z | z | z <;> rw [z] <;> first | exact Nat.le_refl _ | exact Nat.le_add_right _ _
  exact I1.fpOk hle (I1.hok.fresh hle)
theorem walk_zm {K : PySem.W.Frag} {a b : Addr} {xs ys : List V} : Walk (Izm K a b xs ys) xs.length (fun H => SqT K H a xs ∧ SqL K H b ys ∧ xs.length = ys.length) (YPair (fun i => xs[i]?) (fun i => ys[i]?)) := by
  refine ⟨fun i _ hi q => ⟨q, hi⟩, fun _ q => ⟨q, rfl⟩, fun i H v H' _ q y => ?_⟩
  obtain ⟨T, x, z, h1, h2, h3, h4, h5⟩ := y
  exact ⟨T, x, z, h1, h2, h3, h4, h5⟩
end Cl

/-! Carryclaim: loops over pairs of data. -/
namespace Cl
open PySem PySem.Spec PyProof.Rows L2
theorem map_get {α : Type} {enc : α → PyData} {xs : List α} {i : Nat} {d : PyData} (h : (xs.map enc)[i]? = some d) : ∃ x, xs[i]? = some x ∧ enc x = d := by
  rw [List.getElem?_map] at h
  cases q : xs[i]? with
  | none => rw [q] at h; cases h
  | some x => rw [q] at h; exact ⟨x, rfl, Option.some.inj h⟩
theorem take_len {α : Type} {xs pre post : List α} {i : Nat} {x : α} (h : xs[i]? = some x) : (xs.take i).length = i := by
  rw [List.length_take]
  have := (List.getElem?_eq_some_iff.mp h).1
  omega
section
variable {α : Type} {K : PySem.W.Frag} {a : Addr} {vs : List V} {g : TG} {tb : TS} {D : Ends} {σ : L2.St} {H : Hp}
/-- for i, x in enumerate(a tuple of data) -/
theorem for_et (enc : α → PyData) (xs : List α) (hA : SqT K H a vs) (r : RpA K H vs (xs.map enc)) (Pv : List α → L2.St → Hp → Prop) (h0 : Pv [] σ H) (ht : ∀ l σ' H', Pv l σ' H' → TLe H H')
    (hs : ∀ pre x post y T σ' H', xs = pre ++ x :: post → Rp K H' y (enc x) → Pv pre σ' H' → H' T = none →
      g (.ref T) σ' (upd H' T (.tup [.int ((pre.length : Nat) : Int), y])) fun σ2 H2 => tb { D with nx := Pv (pre ++ [x]), ct := Pv (pre ++ [x]), bk := D.nx } σ2 H2)
    (hd : ∀ σ' H', Pv xs σ' H' → D.nx σ' H') :
    ∃ W : Nat → Nat → L2.St → Hp → Prop, (∃ m, W 0 m σ H) ∧ ∀ i m σ H, W i m σ H →
      ((Iet K a vs).stop i H ∧ D.nx σ H) ∨ ((Iet K a vs).go i H ∧ ∃ N : L2.St → Hp → Prop, (∀ σ' H', N σ' H' → ∃ m', m' < m ∧ W (i + 1) m' σ' H') ∧ ∀ x H', (Iet K a vs).yld i H x H' → g x σ H' fun σ2 H2 => tb { D with nx := N, ct := N, bk := D.nx } σ2 H2) := by
  have hl : vs.length = xs.length := by rw [r.len, List.length_map]
  refine for_it walk_enumT (fun i σ H => Pv (xs.take i) σ H) (by simpa using h0) (fun i σ' H' _ p => (ht _ _ _ p).seqT hA) (fun i v σ' H1 H2 hi p y => ?_) fun σ' H' p => hd σ' H' (by rw [hl, List.take_length] at p; exact p)
  obtain ⟨T, k, y', rfl, hT, rfl, hk, hy⟩ := y
  obtain ⟨d, hd', rd⟩ := r.get hy
  obtain ⟨x, hx, rfl⟩ := map_get hd'
  obtain ⟨e1, e2⟩ := take_split hx
  have q := hs (xs.take i) x (xs.drop (i + 1)) y' T σ' H1 e1 (rd.mono (ht _ _ _ p)) p hT
  rw [take_len (pre := []) (post := []) hx] at q
  cases hk
  simp only [e2]
  exact q
/-- .. over a list of data that the body leaves alone -/
theorem for_el (enc : α → PyData) (xs : List α) (r : RpA K H vs (xs.map enc)) (Pv : List α → L2.St → Hp → Prop) (h0 : Pv [] σ H) (ht : ∀ l σ' H', Pv l σ' H' → TLe H H' ∧ SqL K H' a vs)
    (hs : ∀ pre x post y T σ' H', xs = pre ++ x :: post → Rp K H' y (enc x) → Pv pre σ' H' → H' T = none →
      g (.ref T) σ' (upd H' T (.tup [.int ((pre.length : Nat) : Int), y])) fun σ2 H2 => tb { D with nx := Pv (pre ++ [x]), ct := Pv (pre ++ [x]), bk := D.nx } σ2 H2)
    (hd : ∀ σ' H', Pv xs σ' H' → D.nx σ' H') :
    ∃ W : Nat → Nat → L2.St → Hp → Prop, (∃ m, W 0 m σ H) ∧ ∀ i m σ H, W i m σ H →
      ((Ite K a).stop i H ∧ D.nx σ H) ∨ ((Ite K a).go i H ∧ ∃ N : L2.St → Hp → Prop, (∀ σ' H', N σ' H' → ∃ m', m' < m ∧ W (i + 1) m' σ' H') ∧ ∀ x H', (Ite K a).yld i H x H' → g x σ H' fun σ2 H2 => tb { D with nx := N, ct := N, bk := D.nx } σ2 H2) := by
  have hl : vs.length = xs.length := by rw [r.len, List.length_map]
  refine for_it (walk_enum (xs := vs)) (fun i σ H => Pv (xs.take i) σ H) (by simpa using h0) (fun i σ' H' _ p => (ht _ _ _ p).2) (fun i v σ' H1 H2 hi p y => ?_) fun σ' H' p => hd σ' H' (by rw [hl, List.take_length] at p; exact p)
  obtain ⟨T, k, y', rfl, hT, rfl, hk, hy⟩ := y
  obtain ⟨d, hd', rd⟩ := r.get hy
  obtain ⟨x, hx, rfl⟩ := map_get hd'
  obtain ⟨e1, e2⟩ := take_split hx
  have q := hs (xs.take i) x (xs.drop (i + 1)) y' T σ' H1 e1 (rd.mono (ht _ _ _ p).1) p hT
  rw [take_len (pre := []) (post := []) hx] at q
  cases hk
  simp only [e2]
  exact q
/-- for x, y in zip(tuple of data, list of texts) -/
theorem for_zt {b : Addr} {ws : List V} (f g' : α → V) (xs : List α) (hA : SqT K H a vs) (r : vs = xs.map f) (hw : ws = xs.map g') (Pv : List α → L2.St → Hp → Prop) (h0 : Pv [] σ H) (ht : ∀ l σ' H', Pv l σ' H' → TLe H H' ∧ SqL K H' b ws)
    (hs : ∀ pre x post T σ' H', xs = pre ++ x :: post → Pv pre σ' H' → H' T = none →
      g (.ref T) σ' (upd H' T (.tup [f x, g' x])) fun σ2 H2 => tb { D with nx := Pv (pre ++ [x]), ct := Pv (pre ++ [x]), bk := D.nx } σ2 H2)
    (hd : ∀ σ' H', Pv xs σ' H' → D.nx σ' H') :
    ∃ W : Nat → Nat → L2.St → Hp → Prop, (∃ m, W 0 m σ H) ∧ ∀ i m σ H, W i m σ H →
      ((Izm K a b vs ws).stop i H ∧ D.nx σ H) ∨ ((Izm K a b vs ws).go i H ∧ ∃ N : L2.St → Hp → Prop, (∀ σ' H', N σ' H' → ∃ m', m' < m ∧ W (i + 1) m' σ' H') ∧ ∀ x H', (Izm K a b vs ws).yld i H x H' → g x σ H' fun σ2 H2 => tb { D with nx := N, ct := N, bk := D.nx } σ2 H2) := by
  subst r hw
  refine for_it walk_zm (fun i σ H => Pv (xs.take i) σ H) (by simpa using h0) (fun i σ' H' _ p => ⟨(ht _ _ _ p).1.seqT hA, (ht _ _ _ p).2, by simp⟩) (fun i v σ' H1 H2 hi p y => ?_) fun σ' H' p => hd σ' H' (by rw [List.length_map, List.take_length] at p; exact p)
  obtain ⟨T, u, y', rfl, hT, rfl, hu, hy⟩ := y
  have hi2 : i < xs.length := by simpa using hi
  have hx : xs[i]? = some xs[i] := List.getElem?_eq_getElem hi2
  replace hu : (xs.map f)[i]? = some u := hu
  replace hy : (xs.map g')[i]? = some y' := hy
  rw [List.getElem?_map, hx] at hu hy
  cases hu
  cases hy
  obtain ⟨e1, e2⟩ := take_split hx
  have q := hs (xs.take i) _ (xs.drop (i + 1)) T σ' H1 e1 p hT
  simp only [e2]
  exact q
end
end Cl

/-! Carryclaim: the defs of places.py. -/
namespace Cl
open PySem PySem.Spec PyProof.Rows L2
section
variable {K : PySem.W.Frag} {H : Hp} {x y : V} {ds es : List PyData} {Q : VK}
theorem cat_ok (hx : Rp K H x (.tuple ds)) (hy : Rp K H y (.tuple es)) (hz : ds.length + es.length ≤ 100000) (q : ∀ u H', Kp none H H' → Rp K H' u (.tuple (ds ++ es)) → Q u H') : rCatA K x y H Q := by
  obtain ⟨a, xs, rfl, ha, ra⟩ := hx.tup_inv
  obtain ⟨b, ys, rfl, hb, rb⟩ := hy.tup_inv
  refine ⟨a, b, xs, ys, rfl, rfl, ha, hb, small_le (by rw [ra.len, rb.len]; exact hz), fun e => ?_, fun _ e => ?_, fun _ _ p hp => ?_⟩
  · subst e
    cases ra
    exact q _ _ (Kp.refl _) hy
  · subst e
    cases rb
    rw [List.append_nil] at q
    exact q _ _ (Kp.refl _) hx
  · exact q _ _ ((Kp.refl _).new hp) (Rp.mk hp (ra.app rb))
theorem Ls.tup {p q : Addr} (h : Ls K H p ds) (n : H q = none) : ∃ vs, SqL K H p vs ∧ Rp K (upd H q (.tup vs)) (.ref q) (.tuple ds) := by
  obtain ⟨vs, h1, r⟩ := h
  exact ⟨vs, .inl (.inl h1), Rp.mk n r⟩
theorem Ls.sq {p : Addr} (h : Ls K H p ds) : ∃ vs, SqL K H p vs ∧ RpA K H vs ds := by
  obtain ⟨vs, h1, r⟩ := h
  exact ⟨vs, .inl (.inl h1), r⟩
/-- tuple(list) -/
theorem tupOf_ok {p : Addr} (h : Ls K H p ds) (q : ∀ u H', Kp none H H' → Rp K H' u (.tuple ds) → Q u H') :
    ∃ a ys, [V.ref p] = [.ref a] ∧ ((SqL K H a ys ∧ ∀ l, H l = none → Q (.ref l) (upd H l (.tup ys))) ∨ (SqT K H a ys ∧ Q (.ref a) H)) := by
  obtain ⟨vs, h1, r⟩ := h
  exact ⟨p, vs, rfl, .inl ⟨.inl (.inl h1), fun l hl => q _ _ ((Kp.refl _).new hl) (Rp.mk hl r)⟩⟩
end

def numText (n : Nat) : Str := (toString ((n : Nat) : Int) : String)
def dot : Str := "."
def pathText (p : List Nat) : Str := Txt.join dot (p.map numText)
def encPath (p : List Nat) : PyData := .tuple (p.map fun (n : Nat) => .int ((n : Nat) : Int))
theorem numText_len {n : Nat} (h : n < 10000) : (numText n).length ≤ 4 := by
  have e := TL.len_tl (numText n)
  unfold numText at e
  rw [TL.tl_num] at e
  unfold numText
  rw [e]
  exact TL.numL_len (by decide) (by omega)
theorem log_small {i : Int} (h : i.natAbs < 2 ^ 1919) : i.natAbs.log2 < 1920 := by
  by_cases e : i.natAbs = 0
  · rw [e]; decide
  · exact (Nat.log2_lt e).mpr (Nat.lt_trans h (by decide +kernel))
theorem log_nat {n : Nat} (h : n < 10000) : (((n : Nat) : Int)).natAbs.log2 < 1920 := log_small (by
  rw [Int.natAbs_natCast]
  exact Nat.lt_trans h (by decide +kernel))
def spPathText (K : PySem.W.Frag) : Sp := fun vs H Q _ => ∃ (v : V) (p : List Nat), vs = [v] ∧ Rp K H v (encPath p) ∧ p.length ≤ 100 ∧ (∀ n ∈ p, n < 10000) ∧ ∀ H', Kp none H H' → Q (.str (pathText p)) H'
def spPaths (K : PySem.W.Frag) (n : Nat) : Sp := fun vs H Q _ => ∃ (v u : V) (b : List Stm) (p : List Nat), vs = [v, u] ∧ Rp K H v (encB b) ∧ Rp K H u (encPath p) ∧ depL b ≤ n ∧ p.length + 2 * depL b ≤ 100 ∧ (allL b).length ≤ 1000 ∧
  ∀ a H', Kp none H H' → H a = none → Ls K H' a ((pathL p 0 b).map encPath) → Q (.ref a) H'
section
variable {P : Program} {w : World} {K : PySem.W.Frag} {mg : Str → Option Value} {base : Heap}
abbrev s_path_text : Stmt := top 13
abbrev N_path_text : List Str := ["path", "number"]
theorem sc_path_text : FnScope N_path_text ["path"] (defScope s_path_text) := ⟨rfl, rfl, rfl, by decide +kernel, rfl, by decide +kernel, by decide +kernel⟩
theorem sum_le {α : Type} {f : α → Nat} {k : Nat} : ∀ {l : List α}, (∀ x ∈ l, f x ≤ k) → (l.map f).sum ≤ l.length * k
  | [], _ => by simp
  | x :: l, h => by
    have h1 := h x List.mem_cons_self
    have h2 := sum_le (l := l) fun y hy => h y (List.mem_cons_of_mem _ hy)
    rw [List.map_cons, List.sum_cons, List.length_cons, Nat.add_mul]
    omega
theorem ok_path_text (T : Bl mg) (D : Df K mg "path_text" s_path_text ["path"]) : Kn P w K mg base 1 "path_text" ["path"] (spPathText K) := by
  refine D.ok sc_path_text (fun vs H Q E h => ?_) (fun f cdv A outer s H vs Q E hr h => ?_)
  · obtain ⟨v, p, rfl, _⟩ := h
    rfl
  obtain ⟨v, p, rfl, hv, hl, hs, q⟩ := h
  refine ⟨_, (pss_one (ps_ret (pe_join pe_str (pe_lc (own := [("number", 1)]) (g := gName 1) (tt := tYes) rfl sc_path_text.nd (pi_tup (pv 0)) (blkOk_by (own := [("number", 1)]) (N := N_path_text) (sc := defScope s_path_text) (by decide +kernel)) (fun _ _ _ _ _ => (pg_name (i := 1) sc_path_text.nd rfl (by first | exact Or.inl rfl | exact Or.inr rfl))) (fun _ _ _ _ _ => pts_nil) (fun _ _ _ _ _ => (pe_callTy call_str_int (by rfl) T.str (by decide +kernel) (pa_cons (pv 1) pa_nil))))))), ?_⟩
  obtain ⟨a, ws, rfl, ha, r⟩ := hv.tup_inv
  refine ⟨⟨_, rfl⟩, _, rfl, a, rfl, ⟨_, ha⟩, fun D hD => lc_dt (m := none) (fun n : Nat => .int ((n : Nat) : Int)) (fun n => .str (numText n)) p ha r hD (.inr rfl) (small_lt (by omega)) ?_ ?_⟩
  · intro n y H' hn k ry R hR
    rw [ry.int_inv]
    exact ⟨rfl, _, rfl, _, rfl, log_nat (hs n hn), hR _ _ (Kp.refl _) (.str _)⟩
  · intro H' k ls
    obtain ⟨vs, h1, r1⟩ := ls
    have e : vs = (p.map numText).map V.str := RpA.strs_eq (xs := p.map numText) (by rw [List.map_map]; exact r1)
    subst e
    refine ⟨dot, D, p.map numText, rfl, rfl, .inl (.inl (.inl h1)), ?_, q _ k⟩
    have h3 : ((p.map numText).map (·.length)).sum ≤ (p.map numText).length * 4 := sum_le fun x hx => by
      obtain ⟨n, hn, rfl⟩ := List.mem_map.mp hx
      exact numText_len (hs n hn)
    rw [List.length_map] at h3 ⊢
    have h4 : dot.length = 1 := by decide +kernel
    rw [h4]
    omega

abbrev s_block_paths : Stmt := top 14
abbrev N_block_paths : List Str := ["block", "start", "paths", "at", "statement", "number", "inner"]
theorem sc_block_paths : FnScope N_block_paths ["block", "start"] (defScope s_block_paths) := ⟨rfl, rfl, rfl, by decide +kernel, rfl, by decide +kernel, by decide +kernel⟩
theorem encPath_snoc (p : List Nat) (n : Nat) : p.map (fun (n : Nat) => PyData.int ((n : Nat) : Int)) ++ [.int ((n : Nat) : Int)] = (p ++ [n]).map fun (n : Nat) => PyData.int ((n : Nat) : Int) := by simp
theorem encPath_snoc2 (p : List Nat) (n m : Nat) : p.map (fun (n : Nat) => PyData.int ((n : Nat) : Int)) ++ [.int ((n : Nat) : Int), .int ((m : Nat) : Int)] = (p ++ [n] ++ [m]).map fun (n : Nat) => PyData.int ((n : Nat) : Int) := by simp
theorem ok_paths_step {n : Nat} (T : Bl mg) (D : Df K mg "block_paths" s_block_paths ["block", "start"]) (G_blocks_of : Kn P w K mg base 1 "blocks_of" ["statement"] (spBlks K))
    (G_block_paths : Kn P w K mg base (n + 1) "block_paths" ["block", "start"] (fun vs H Q E => ∃ j, j < n ∧ spPaths K j vs H Q E)) : Kn P w K mg base (n + 2) "block_paths" ["block", "start"] (spPaths K n) := by
  refine D.ok sc_block_paths (fun vs H Q E h => ?_) (fun f cdv A outer s H vs Q E hr h => ?_)
  · obtain ⟨v, u, b, p, rfl, _⟩ := h
    rfl
  obtain ⟨v, u, b, p, rfl, hv, hu, hdep, hpl, hlen, q⟩ := h
  refine ⟨_, (pss_cons (ps_set (i := 2) sc_block_paths.nd rfl (by first | exact Or.inl rfl | exact Or.inr rfl) (pe_lst pa_nil))
    (pss_cons (ps_for PassesOwn.never rfl (pi_enumT (by rfl) T.enumerate (pa_cons (pv 0) pa_nil)) (pg_tup rfl (pgs_cons (pg_name (i := 3) sc_block_paths.nd rfl (by first | exact Or.inl rfl | exact Or.inr rfl)) (pgs_cons (pg_name (i := 4) sc_block_paths.nd rfl (by first | exact Or.inl rfl | exact Or.inr rfl)) pgs_nil))) (pss_cons (ps_expr (pe_bm PySem.F.plainAttrs_list PySem.F.slot_list_append PySem.F.type_list_append mt_append (pv 2) (pa_cons (pe_op op_catA (pv 1) (pe_tup (pa_cons (pv 3) pa_nil))) pa_nil)))
      (pss_one (ps_for PassesOwn.never rfl (pi_enumT (by rfl) T.enumerate (pa_cons (pe_kn G_blocks_of hr (pa_cons (pv 4) pa_nil) (by omega)) pa_nil)) (pg_tup rfl (pgs_cons (pg_name (i := 5) sc_block_paths.nd rfl (by first | exact Or.inl rfl | exact Or.inr rfl)) (pgs_cons (pg_name (i := 6) sc_block_paths.nd rfl (by first | exact Or.inl rfl | exact Or.inr rfl)) pgs_nil))) (pss_one (ps_expr (pe_bm PySem.F.plainAttrs_list PySem.F.slot_list_extend PySem.F.type_list_extend mt_extend (pv 2) (pa_cons (pe_kn G_block_paths hr (pa_cons (pv 6) (pa_cons (pe_op op_catA (pv 1) (pe_tup (pa_cons (pv 3) (pa_cons (pv 5) pa_nil)))) pa_nil)) (by omega)) pa_nil))))))))
    (pss_one (ps_ret (pv 2))))), ?_⟩
  obtain ⟨a, ws, rfl, hs, r0⟩ := hv.tup_inv
  have hpz : p.length ≤ 100 := by omega
  refine ⟨Nat.zero_le _, fun o ho => ?_⟩
  have k0 : Kp none H (upd H o (.lst [])) := (Kp.refl _).new ho
  refine ⟨_, rfl, a, ws, rfl, k0.tle.seqT hs, for_et encS b (k0.tle.seqT hs) (r0.mono k0.tle)
    (fun l σ' H' => (∃ y z y2 z2, σ' = [some (.ref a), some u, some (.ref o), y, z, y2, z2]) ∧ Kp none H H' ∧ TLe (upd H o (.lst [])) H' ∧ Ls K H' o ((pathL p 0 l).map encPath))
    ⟨⟨_, _, _, _, rfl⟩, k0, TLe.refl _, [], upd_same, .nil⟩ (fun l σ' H' z => z.2.2.1) ?_ ?_⟩
  · rintro pre x post y T1 σ' H' e ry ⟨⟨z1, z2, z3, z4, rfl⟩, k1, t1, vs1, hl1, rl1⟩ hT1
    have hlen1 : (allL pre).length + (allS x).length ≤ 1000 := by
      rw [e, allL_append] at hlen
      simp only [allL, List.length_append] at hlen
      omega
    have hl2 : vs1.length = (allL pre).length := by rw [rl1.len, List.length_map, pathL_len]
    have hx1 : 1 ≤ (allS x).length := by rw [allS_blks]; simp
    have hdx0 : depS x ≤ depL b := depL_mem (by rw [e]; simp)
    have hdx : depS x ≤ n := Nat.le_trans hdx0 hdep
    -- at, statement = the pair
    refine ⟨T1, _, rfl, .inl (.inl upd_same), rfl, _, _, rfl, _, _, rfl, rfl, ?_⟩
    have k2 : Kp none H' (upd H' T1 (.tup [.int ((pre.length : Nat) : Int), y])) := (Kp.refl _).new hT1
    -- paths.append(start + (at,))
    refine ⟨_, rfl, .inl ⟨rfl, _, .inl (.inl (k2.of hl1))⟩, u, rfl, _, rfl, small_le (by simp), fun T2 hT2 => ?_⟩
    have k3 := k2.new (o := .tup [.int ((pre.length : Nat) : Int)]) hT2
    refine cat_ok (ds := p.map fun (n : Nat) => .int ((n : Nat) : Int)) (es := [.int ((pre.length : Nat) : Int)]) (hu.mono (k1.tle.trans k3.tle)) (Rp.mk hT2 (.cons (.int _) .nil)) (by simp; omega) fun u2 H3 k4 r4 => ?_
    rw [encPath_snoc] at r4
    have k5 := k3.trans k4
    refine ⟨o, vs1, u2, rfl, rfl, k5.of hl1, small_lt (by omega), ?_⟩
    have k6 : Kp none H (upd H3 o (.lst (vs1 ++ [u2]))) := (k1.trans k5).put ho
    have t6 : TLe H' (upd H3 o (.lst (vs1 ++ [u2]))) := k5.tle.trans (TLe.put (k5.of hl1))
    have rl2 : RpA K (upd H3 o (.lst (vs1 ++ [u2]))) (vs1 ++ [u2]) ((pathL p 0 pre ++ [p ++ [pre.length]]).map encPath) := by
      rw [List.map_append]
      exact ((rl1.mono k5.tle).snoc r4).mono (TLe.put (k5.of hl1))
    -- for number, inner in enumerate(blocks_of(statement))
    refine ⟨_, rfl, y, x, rfl, ry.mono t6, fun u3 H4 k7 r7 => ?_⟩
    obtain ⟨c, us, rfl, hc, rc⟩ := r7.tup_inv
    have h4 : H4 o = some (.lst (vs1 ++ [u2])) := k7.of upd_same
    refine ⟨c, us, rfl, hc, for_et encB (blks x) hc rc
      (fun l σ' H' => (∃ z z', σ' = [some (.ref a), some u, some (.ref o), some (.int ((pre.length : Nat) : Int)), some y, z, z']) ∧ Kp none H H' ∧ TLe H4 H' ∧ Ls K H' o ((pathL p 0 pre ++ (p ++ [pre.length]) :: pathBs (p ++ [pre.length]) 0 l).map encPath))
      ⟨⟨_, _, rfl⟩, k6.trans k7, TLe.refl _, _, h4, by simpa [pathBs] using rl2.mono k7.tle⟩ (fun l σ' H' z => z.2.2.1) ?_ ?_⟩
    · rintro pb bb qb yb T3 σ4 H5 eb rb ⟨⟨z5, z6, rfl⟩, k8, t8, vs4, hl4, rl4⟩ hT3
      have hbm : bb ∈ blks x := by rw [eb]; simp
      have h6 : (allS x).length = 1 + (pb.flatMap allL).length + (allL bb).length + (qb.flatMap allL).length := by
        have h5 := allS_blks x
        rw [eb] at h5
        have h6 := congrArg List.length h5
        simp only [List.length_cons, List.flatMap_append, List.flatMap_cons, List.length_append] at h6
        omega
      have hpb : ∀ (j : Nat) (l : List (List Stm)), (pathBs (p ++ [pre.length]) j l).length = (l.flatMap allL).length := fun j l => by
        induction l generalizing j with
        | nil => simp [pathBs]
        | cons z zs ih => simp [pathBs, ih, pathL_len]
      have hl5 : vs4.length = (allL pre).length + (1 + (pb.flatMap allL).length) := by
        rw [rl4.len, List.length_map, List.length_append, List.length_cons, pathL_len, hpb]; omega
      have hdb0 : depL bb < depS x := depS_blk hbm
      have hdb : depL bb < n := Nat.lt_of_lt_of_le hdb0 hdx
      refine ⟨T3, _, rfl, .inl (.inl upd_same), rfl, _, _, rfl, _, _, rfl, rfl, ?_⟩
      have k9 : Kp none H5 (upd H5 T3 (.tup [.int ((pb.length : Nat) : Int), yb])) := (Kp.refl _).new hT3
      refine ⟨_, rfl, .inl ⟨rfl, _, .inl (.inl (k9.of hl4))⟩, yb, rfl, u, rfl, _, rfl, _, rfl, small_le (by simp), fun T4 hT4 => ?_⟩
      have k10 := k9.new (o := .tup [.int ((pre.length : Nat) : Int), .int ((pb.length : Nat) : Int)]) hT4
      refine cat_ok (ds := p.map fun (n : Nat) => .int ((n : Nat) : Int)) (es := [.int ((pre.length : Nat) : Int), .int ((pb.length : Nat) : Int)]) (hu.mono (k8.tle.trans k10.tle)) (Rp.mk hT4 (.cons (.int _) (.cons (.int _) .nil))) (by simp; omega) fun u5 H6 k11 r11 => ?_
      rw [encPath_snoc2] at r11
      have k12 := k10.trans k11
      refine ⟨depL bb, hdb, yb, u5, bb, p ++ [pre.length] ++ [pb.length], rfl, rb.mono k12.tle, r11, Nat.le_refl _, by simp; omega, by omega, fun p5 H7 k13 n13 ls5 => ?_⟩
      obtain ⟨vs5, hl6, rl5⟩ := ls5
      have k14 := k12.trans k13
      have hp5 : H7 o = some (.lst vs4) := k14.of hl4
      have hl7 : vs5.length = (allL bb).length := by rw [rl5.len, List.length_map, pathL_len]
      refine ⟨o, p5, vs4, vs5, rfl, rfl, hp5, hl6, small_le (by omega), ⟨⟨_, _, rfl⟩, (k8.trans k14).put ho, (t8.trans k14.tle).trans (TLe.put hp5), _, upd_same, ?_⟩⟩
      have r9 := (rl4.mono k14.tle).app rl5
      rw [← List.map_append] at r9
      have e9 : pathL p 0 pre ++ (p ++ [pre.length]) :: pathBs (p ++ [pre.length]) 0 pb ++ pathL (p ++ [pre.length] ++ [pb.length]) 0 bb = pathL p 0 pre ++ (p ++ [pre.length]) :: pathBs (p ++ [pre.length]) 0 (pb ++ [bb]) := by
        rw [pathBs_append]
        simp [pathBs]
      rw [e9] at r9
      exact r9.mono (TLe.put hp5)
    · rintro σ4 H5 ⟨⟨z5, z6, rfl⟩, k8, t8, l8⟩
      refine ⟨⟨_, _, _, _, rfl⟩, k8, ((t1.trans t6).trans k7.tle).trans t8, ?_⟩
      have e9 : pathL p 0 pre ++ (p ++ [pre.length]) :: pathBs (p ++ [pre.length]) 0 (blks x) = pathL p 0 (pre ++ [x]) := by
        rw [pathL_append]; simp [pathL, pathS_blks]
      rw [e9] at l8
      exact l8
  · rintro σ4 H4 ⟨⟨z3, z4, z5, z6, rfl⟩, k4, t4, l4⟩
    exact ⟨_, rfl, q _ _ k4 ho l4⟩
theorem ok_paths (T : Bl mg) (D : Df K mg "block_paths" s_block_paths ["block", "start"]) (G_blocks_of : Kn P w K mg base 1 "blocks_of" ["statement"] (spBlks K)) :
    ∀ n, Kn P w K mg base (n + 2) "block_paths" ["block", "start"] (spPaths K n) := by
  intro n
  induction n with
  | zero => exact ok_paths_step (n := 0) T D G_blocks_of (by
      obtain ⟨f, fd, F, b, m⟩ := D
      refine ⟨f, fd, ⟨fun vs H Q E h => ?_, fun A outer s H args us vs Q E _ _ _ _ h => ?_⟩, b, m, F.kp⟩
      · obtain ⟨j, hj, _⟩ := h; omega
      · obtain ⟨j, hj, _⟩ := h; omega)
  | succ n ih => exact ok_paths_step (n := n + 1) T D G_blocks_of (ih.imp fun vs H Q E h => by
      obtain ⟨j, hj, v, u, b, p, rfl, h1, h2, h3, h4, h5⟩ := h
      exact ⟨v, u, b, p, rfl, h1, h2, by omega, h4, h5⟩)
end
end Cl

/-! Carryclaim: paths are apart, and so are their texts. -/
namespace Cl
open PySem
mutual
theorem pathS_ok {M : Nat} (hM : 2 ≤ M) : ∀ (s : Stm) (p q : List Nat), (∀ n ∈ p, n < M) → (allS s).length ≤ M → q ∈ pathS p s → q.length ≤ p.length + 2 * depS s ∧ ∀ n ∈ q, n < M
  | .ite c a b, p, q, hp, hl, hq => by
    simp only [allS, List.length_cons, List.length_append] at hl
    simp only [pathS, List.mem_cons, List.mem_append] at hq
    rcases hq with rfl | hq | hq
    · exact ⟨by omega, hp⟩
    · obtain ⟨h1, h2⟩ := pathL_ok hM a (p ++ [0]) 0 q (by intro n hn; rcases List.mem_append.mp hn with h | h; exact hp n h; simp at h; omega) (by omega) hq
      refine ⟨?_, h2⟩
      simp only [List.length_append, List.length_singleton, depS] at h1 ⊢
      omega
    · obtain ⟨h1, h2⟩ := pathL_ok hM b (p ++ [1]) 0 q (by intro n hn; rcases List.mem_append.mp hn with h | h; exact hp n h; simp at h; omega) (by omega) hq
      refine ⟨?_, h2⟩
      simp only [List.length_append, List.length_singleton, depS] at h1 ⊢
      omega
  | .loop c b, p, q, hp, hl, hq => by
    simp only [allS, List.length_cons] at hl
    simp only [pathS, List.mem_cons] at hq
    rcases hq with rfl | hq
    · exact ⟨by omega, hp⟩
    · obtain ⟨h1, h2⟩ := pathL_ok hM b (p ++ [0]) 0 q (by intro n hn; rcases List.mem_append.mp hn with h | h; exact hp n h; simp at h; omega) (by omega) hq
      refine ⟨?_, h2⟩
      simp only [List.length_append, List.length_singleton, depS] at h1 ⊢
      omega
  | .set _ _, p, q, hp, _, hq => by simp only [pathS, List.mem_singleton] at hq; subst hq; exact ⟨by omega, hp⟩
  | .ask _, p, q, hp, _, hq => by simp only [pathS, List.mem_singleton] at hq; subst hq; exact ⟨by omega, hp⟩
  | .tell _, p, q, hp, _, hq => by simp only [pathS, List.mem_singleton] at hq; subst hq; exact ⟨by omega, hp⟩
  | .check _, p, q, hp, _, hq => by simp only [pathS, List.mem_singleton] at hq; subst hq; exact ⟨by omega, hp⟩
  | .need _, p, q, hp, _, hq => by simp only [pathS, List.mem_singleton] at hq; subst hq; exact ⟨by omega, hp⟩
  | .ret _, p, q, hp, _, hq => by simp only [pathS, List.mem_singleton] at hq; subst hq; exact ⟨by omega, hp⟩
  | .call _ _ _, p, q, hp, _, hq => by simp only [pathS, List.mem_singleton] at hq; subst hq; exact ⟨by omega, hp⟩
theorem pathL_ok {M : Nat} (hM : 2 ≤ M) : ∀ (b : List Stm) (p : List Nat) (k : Nat) (q : List Nat), (∀ n ∈ p, n < M) → k + (allL b).length ≤ M → q ∈ pathL p k b → q.length ≤ p.length + 2 * depL b + 1 ∧ ∀ n ∈ q, n < M
  | [], p, k, q, _, _, hq => by simp [pathL] at hq
  | s :: r, p, k, q, hp, hl, hq => by
    simp only [allL, List.length_append] at hl
    have h1 : 1 ≤ (allS s).length := by rw [allS_blks]; simp
    simp only [pathL, List.mem_append] at hq
    rcases hq with hq | hq
    · obtain ⟨h1, h2⟩ := pathS_ok hM s (p ++ [k]) q (by intro n hn; rcases List.mem_append.mp hn with h | h; exact hp n h; simp at h; omega) (by omega) hq
      refine ⟨?_, h2⟩
      simp only [List.length_append, List.length_singleton, depL] at h1 ⊢
      omega
    · obtain ⟨h1, h2⟩ := pathL_ok hM r p (k + 1) q hp (by omega) hq
      refine ⟨?_, h2⟩
      simp only [depL] at h1 ⊢
      omega
end
mutual
theorem pathS_pre : ∀ (s : Stm) (p q : List Nat), q ∈ pathS p s → ∃ r, q = p ++ r
  | .ite c a b, p, q, hq => by
    simp only [pathS, List.mem_cons, List.mem_append] at hq
    rcases hq with rfl | hq | hq
    · exact ⟨[], by simp⟩
    · obtain ⟨j, r, _, e⟩ := pathL_pre a (p ++ [0]) 0 q hq
      exact ⟨_, by rw [e, List.append_assoc]⟩
    · obtain ⟨j, r, _, e⟩ := pathL_pre b (p ++ [1]) 0 q hq
      exact ⟨_, by rw [e, List.append_assoc]⟩
  | .loop c b, p, q, hq => by
    simp only [pathS, List.mem_cons] at hq
    rcases hq with rfl | hq
    · exact ⟨[], by simp⟩
    · obtain ⟨j, r, _, e⟩ := pathL_pre b (p ++ [0]) 0 q hq
      exact ⟨_, by rw [e, List.append_assoc]⟩
  | .set _ _, p, q, hq => by simp only [pathS, List.mem_singleton] at hq; exact ⟨[], by simp [hq]⟩
  | .ask _, p, q, hq => by simp only [pathS, List.mem_singleton] at hq; exact ⟨[], by simp [hq]⟩
  | .tell _, p, q, hq => by simp only [pathS, List.mem_singleton] at hq; exact ⟨[], by simp [hq]⟩
  | .check _, p, q, hq => by simp only [pathS, List.mem_singleton] at hq; exact ⟨[], by simp [hq]⟩
  | .need _, p, q, hq => by simp only [pathS, List.mem_singleton] at hq; exact ⟨[], by simp [hq]⟩
  | .ret _, p, q, hq => by simp only [pathS, List.mem_singleton] at hq; exact ⟨[], by simp [hq]⟩
  | .call _ _ _, p, q, hq => by simp only [pathS, List.mem_singleton] at hq; exact ⟨[], by simp [hq]⟩
theorem pathL_pre : ∀ (b : List Stm) (p : List Nat) (k : Nat) (q : List Nat), q ∈ pathL p k b → ∃ j r, k ≤ j ∧ q = p ++ j :: r
  | [], p, k, q, hq => by simp [pathL] at hq
  | s :: r, p, k, q, hq => by
    simp only [pathL, List.mem_append] at hq
    rcases hq with hq | hq
    · obtain ⟨t, e⟩ := pathS_pre s (p ++ [k]) q hq
      exact ⟨k, t, Nat.le_refl _, by rw [e]; simp⟩
    · obtain ⟨j, t, h1, e⟩ := pathL_pre r p (k + 1) q hq
      exact ⟨j, t, by omega, e⟩
end
mutual
theorem pathS_nd : ∀ (s : Stm) (p : List Nat), (pathS p s).Nodup
  | .ite c a b, p => by
    simp only [pathS]
    rw [List.nodup_cons, List.nodup_append]
    refine ⟨fun hq => ?_, pathL_nd a _ _, pathL_nd b _ _, fun x hx y hy e => ?_⟩
    · rcases List.mem_append.mp hq with hq | hq
      · obtain ⟨j, r, _, e⟩ := pathL_pre a (p ++ [0]) 0 p hq
        have := congrArg List.length e
        simp at this
      · obtain ⟨j, r, _, e⟩ := pathL_pre b (p ++ [1]) 0 p hq
        have := congrArg List.length e
        simp at this
    · obtain ⟨j, r, _, e1⟩ := pathL_pre a (p ++ [0]) 0 x hx
      obtain ⟨j', r', _, e2⟩ := pathL_pre b (p ++ [1]) 0 y hy
      rw [e1, e2, List.append_assoc, List.append_assoc] at e
      have := List.append_cancel_left e
      simp at this
  | .loop c b, p => by
    simp only [pathS]
    rw [List.nodup_cons]
    refine ⟨fun hq => ?_, pathL_nd b _ _⟩
    obtain ⟨j, r, _, e⟩ := pathL_pre b (p ++ [0]) 0 p hq
    have := congrArg List.length e
    simp at this
  | .set _ _, p => by simp [pathS]
  | .ask _, p => by simp [pathS]
  | .tell _, p => by simp [pathS]
  | .check _, p => by simp [pathS]
  | .need _, p => by simp [pathS]
  | .ret _, p => by simp [pathS]
  | .call _ _ _, p => by simp [pathS]
theorem pathL_nd : ∀ (b : List Stm) (p : List Nat) (k : Nat), (pathL p k b).Nodup
  | [], p, k => by simp [pathL]
  | s :: r, p, k => by
    simp only [pathL]
    rw [List.nodup_append]
    refine ⟨pathS_nd s _, pathL_nd r _ _, fun x hx y hy e => ?_⟩
    obtain ⟨t, e1⟩ := pathS_pre s (p ++ [k]) x hx
    obtain ⟨j, t', hj, e2⟩ := pathL_pre r p (k + 1) y hy
    rw [e1, e2, List.append_assoc] at e
    have q := List.append_cancel_left e
    simp at q
    omega
end
theorem tl_dot : TL.tl dot = 46 :: [] := by decide +kernel
theorem tl_numText (n : Nat) : TL.tl (numText n) = TL.numL n := TL.tl_num n
theorem numText_inj {m n : Nat} (h : numText m = numText n) : m = n := by
  have e := congrArg TL.tl h
  rw [tl_numText, tl_numText] at e
  exact TL.numL_inj e
theorem map_inj' {α β : Type} {f : α → β} (hf : ∀ a b, f a = f b → a = b) : ∀ {l m : List α}, l.map f = m.map f → l = m
  | [], [], _ => rfl
  | [], _ :: _, h => by simp at h
  | _ :: _, [], h => by simp at h
  | x :: l, y :: m, h => by
    rw [List.map_cons, List.map_cons] at h
    injection h with h1 h2
    rw [hf _ _ h1, map_inj' hf h2]
theorem pathText_inj {p q : List Nat} (hp : p ≠ []) (hq : q ≠ []) (h : pathText p = pathText q) : p = q := by
  have key : ∀ r : List Nat, r ≠ [] → Txt.split (pathText r) dot = r.map numText := fun r hr => by
    refine TL.split_join tl_dot (by decide +kernel) (by simpa using hr) fun z hz => ?_
    obtain ⟨n, _, rfl⟩ := List.mem_map.mp hz
    rw [tl_numText]
    exact TL.numL_free (.inl (by decide))
  have e := congrArg (fun z => Txt.split z dot) h
  simp only [key p hp, key q hq] at e
  exact map_inj' (fun a b => numText_inj) e
/-- the signs of a path's text: digits and points, a digit first -/
theorem tl_pathText : ∀ (p : List Nat), TL.tl (pathText p) = TL.joinL [46] (p.map TL.numL) := fun p => by
  unfold pathText
  rw [TL.join_eq, TL.tl_join, tl_dot, List.map_map]
  congr 1
  exact List.map_congr_left fun n _ => tl_numText n
theorem joinL_mem {s : Nat} : ∀ {l : List (List Nat)} {c : Nat}, c ∈ TL.joinL [s] l → c = s ∨ ∃ p ∈ l, c ∈ p
  | [], c, h => by simp [TL.joinL] at h
  | [p], c, h => .inr ⟨p, by simp, by simpa [TL.joinL] using h⟩
  | p :: q :: r, c, h => by
    simp only [TL.joinL, List.mem_append, List.mem_singleton] at h
    rcases h with h | h | h
    · exact .inr ⟨p, by simp, h⟩
    · exact .inl h
    · rcases joinL_mem h with e | ⟨z, hz, hc⟩
      · exact .inl e
      · exact .inr ⟨z, List.mem_cons_of_mem _ hz, hc⟩
theorem pathText_signs {p : List Nat} {c : Nat} (h : c ∈ TL.tl (pathText p)) : c = 46 ∨ (48 ≤ c ∧ c ≤ 57) := by
  rw [tl_pathText] at h
  rcases joinL_mem h with h | ⟨z, hz, hc⟩
  · exact .inl h
  · obtain ⟨n, _, rfl⟩ := List.mem_map.mp hz
    exact .inr (TL.numL_digits n c hc)
theorem pathText_ne {p : List Nat} {w : Str} {c : Nat} (hc : c ∈ TL.tl w) (h : 57 < c) : pathText p ≠ w := fun e => by
  rw [← e] at hc
  rcases pathText_signs hc with h' | h' <;> omega
/-- the places of a procedure with this block -/
def placesL (b : List Stm) : List Str := ("in" : Str) :: ((pathL [] 0 b).map pathText ++ [("out" : Str)])
theorem path_ne {b : List Stm} {q : List Nat} (h : q ∈ pathL [] 0 b) : q ≠ [] := by
  obtain ⟨j, r, _, e⟩ := pathL_pre b [] 0 q h
  rw [e]
  simp
theorem nd_map {α β : Type} {f : α → β} : ∀ {l : List α}, l.Nodup → (∀ a ∈ l, ∀ b ∈ l, f a = f b → a = b) → (l.map f).Nodup
  | [], _, _ => by simp
  | x :: l, h, hf => by
    rw [List.nodup_cons] at h
    rw [List.map_cons, List.nodup_cons]
    refine ⟨fun hm => ?_, nd_map h.2 fun a ha b hb => hf a (List.mem_cons_of_mem _ ha) b (List.mem_cons_of_mem _ hb)⟩
    obtain ⟨y, hy, e⟩ := List.mem_map.mp hm
    exact h.1 (hf y (List.mem_cons_of_mem _ hy) x List.mem_cons_self e ▸ hy)
theorem placesL_nd (b : List Stm) : (placesL b).Nodup := by
  unfold placesL
  have h1 : ((pathL [] 0 b).map pathText).Nodup := nd_map (pathL_nd b [] 0) fun x hx y hy e => pathText_inj (path_ne hx) (path_ne hy) e
  have no : ∀ w : Str, (∃ c ∈ TL.tl w, 57 < c) → w ∉ (pathL [] 0 b).map pathText := fun w ⟨c, hc, h⟩ hm => by
    obtain ⟨q, _, e⟩ := List.mem_map.mp hm
    exact pathText_ne hc h e
  have n1 := no "in" ⟨105, by decide +kernel, by decide⟩
  have n2 := no "out" ⟨111, by decide +kernel, by decide⟩
  rw [List.nodup_cons, List.nodup_append]
  refine ⟨fun hm => ?_, h1, by simp, fun x hx y hy e => ?_⟩
  · rcases List.mem_append.mp hm with hm | hm
    · exact n1 hm
    · exact absurd (List.mem_singleton.mp hm) (by decide +kernel)
  · rw [List.mem_singleton.mp hy] at e
    rw [e] at hx
    exact n2 hx
theorem placesL_len (b : List Stm) : (placesL b).length = (allL b).length + 2 := by
  simp [placesL, pathL_len]
end Cl

/-! Sets of texts: set.add, and sorted of such a set; sorted of a list of texts of any length. -/
namespace Cl
open PySem PySem.Spec PyProof.Rows L2

def txOf (e : Int × Value) : Str := match e.2 with | .str x _ => x | _ => Str.empty
def TxE (w : World) (e : Int × Value) : Prop := ∃ x tk, e.2 = Value.str x tk ∧ e.1 = hashStr w x
/-- the set of the texts xs (each once, in any order) at a; its table can be walked -/
def TxSet (w : World) (h : Heap) (a : Addr) (xs : List Str) : Prop :=
  ∃ o es ep t, h.get? a = some o ∧ o.ExactSet ∧ o.data = .set es ep t ∧ (∀ e ∈ es.toList, TxE w e) ∧ (es.toList.map txOf).Perm xs ∧ xs.Nodup ∧
    es.size < scanBound ∧ t.fits es.size = true ∧ Ris t.place.toList ∧ (w.params.followText "set-order" = true ∨ t.led = true)
section
variable {P : Program} {w : World} {A : Around} {E : Value → Shared → Prop} {s : Shared} {a : Addr} {xs : List Str}
theorem txE_elems {l : List (Int × Value)} (g : ∀ e ∈ l, TxE w e) : ElemsOf (PySem.strKind P w) l := fun e he => by
  obtain ⟨x, tk, h1, h2⟩ := g e he
  rw [h1, h2]
  exact ⟨⟨x, by show Value.isStrOf x (.str x tk) = true; simp [Value.isStrOf], rfl⟩, rfl⟩
theorem txE_is {e : Int × Value} (g : TxE w e) (x : Str) : (PySem.strKind P w).is x e.2 = true ↔ txOf e = x := by
  obtain ⟨y, tk, h1, _⟩ := g
  unfold txOf
  rw [h1]
  show Value.isStrOf x (.str y tk) = true ↔ y = x
  simp [Value.isStrOf]
/-- what stands behind the table's last store -/
theorem tx_tail {g : Bool → Sem Unit} (hg : ∀ (b : Bool) (s₁ : Shared) (Q' : Unit → Shared → Prop), Q' () s₁ → wpAny (model P w) A (g b) Q' E s₁)
    {o : Obj} {es : Array (Int × Value)} {ep : Nat} {t : SetTable} (ho : s.heap.get? a = some o) (hex : o.ExactSet) (hd : o.data = .set es ep t)
    {fs : Array (Int × Value)} {u : SetTable} {ys : List Str} (g1 : ∀ e ∈ fs.toList, TxE w e) (pm : (fs.toList.map txOf).Perm ys) (nd : ys.Nodup)
    (hb : fs.size < scanBound) (hf : u.fits fs.size = true) (hr : Ris u.place.toList) (hl : w.params.followText "set-order" = true ∨ u.led = true) {was : Bool} {R : Option Bool → Shared → Prop}
    (hR : ∀ h', Heap.SameBut a s.heap h' → TxSet w h' a ys → R (some true) { s with heap := h' }) :
    wpAny (model P w) A (do
        storeSet a fs u
        if (!was && u.tooFull) = true then do
            g (relayAll u fs (SetTable.grown fs.size)).2.2
            storeSet a (relayAll u fs (SetTable.grown fs.size)).1 (relayAll u fs (SetTable.grown fs.size)).2.1
            pure (some true)
          else pure (some true)) R E s := by
  refine wpAny_bind (wpAny_storeSet_of ho hd ?_ (fits_of_scanBound hb))
  have o1 := store_at (es' := fs) (t' := u) ho hd
  have sb := Heap.SameBut.update s.heap a (Obj.putSet fs u)
  split
  · have p2 := relayAll_perm u fs (SetTable.grown fs.size)
    have f2 := relayAll_fits u fs (SetTable.grown fs.size)
    have r2 := relayAll_ris u fs (SetTable.grown fs.size)
    have l2 := relayAll_led u fs (SetTable.grown fs.size)
    generalize relayAll u fs (SetTable.grown fs.size) = W at p2 f2 r2 l2 ⊢
    obtain ⟨fs2, u2, gave⟩ := W
    dsimp only at p2 f2 r2 l2 ⊢
    have hz : fs2.size = fs.size := by rw [← Array.length_toList, p2.length_eq, Array.length_toList]
    refine wpAny_bind (hg _ _ _ (wpAny_bind (wpAny_storeSet_of o1 rfl ?_ (fits_of_scanBound (by rw [hz]; exact hb)))))
    refine wpAny_pure (hR _ (sb.trans (Heap.SameBut.update _ a _)) ⟨_, fs2, _, u2, store_at o1 rfl, hex, rfl, fun e he => g1 e (p2.mem_iff.mp he), (p2.map txOf).trans pm, nd, by rw [hz]; exact hb, f2, r2, ?_⟩)
    exact hl.imp id fun z => l2.trans z
  · exact wpAny_pure (hR _ sb ⟨_, fs, _, u, o1, hex, rfl, g1, pm, nd, hb, hf, hr, hl⟩)
theorem tx_hashed {x : Str} {tk : Tok} {Q : Bool → Shared → Prop} (R : TxSet w s.heap a xs) (room : xs.length + 1 < scanBound)
    (hQ : ∀ h' b, Heap.SameBut a s.heap h' → TxSet w h' a (if x ∈ xs then xs else x :: xs) → Q b { s with heap := h' }) :
    wpAny (model P w) A (setAddHashed a (.str x tk) ((PySem.strKind P w).hash x)) Q E s := by
  obtain ⟨o, es, ep, t, ho, hex, hd, g, pm, nd, hb, hf, hr, hl⟩ := R
  have hkey : (PySem.strKind P w).is x (.str x tk) = true := by show Value.isStrOf x (.str x tk) = true; simp [Value.isStrOf]
  have hsc : (Value.str x tk).scannable = true := rfl
  have hel : ElemsOf (PySem.strKind P w) es.toList := txE_elems g
  have hsz : es.size = xs.length := by rw [← pm.length_eq, List.length_map, Array.length_toList]
  unfold setAddHashed setAddHashedIn
  refine wpAny_holding (wpAny_bind (wpAny_setState_of ho hd hf ?_))
  dsimp only
  rw [byScan_of hsc hb hel]
  simp only [↓reduceIte]
  unfold setAddByScan
  refine wpAny_bind (wpAny_bind (wpAny_rule (wpAny_bind (wpAny_setScan_of hkey ho hd hf hel ?_))))
  cases hfi : List.findIdx? (fun e => (PySem.strKind P w).is x e.2) es.toList with
  | some j =>
    dsimp only
    obtain ⟨hj, pj, _⟩ := List.findIdx?_eq_some_iff_getElem.mp hfi
    have hm : x ∈ xs := pm.mem_iff.mp (List.mem_map.mpr ⟨_, List.getElem_mem hj, (txE_is (g _ (List.getElem_mem hj)) x).mp pj⟩)
    refine wpAny_pure (wpAny_pure (hQ s.heap _ (Heap.SameBut.refl a s.heap) ?_))
    rw [if_pos hm]
    exact ⟨o, es, ep, t, ho, hex, hd, g, pm, nd, hb, hf, hr, hl⟩
  | none =>
    dsimp only
    have hm : x ∉ xs := fun z => by
      obtain ⟨e, he, q⟩ := List.mem_map.mp (pm.mem_iff.mpr z)
      have c := List.findIdx?_eq_none_iff.mp hfi e he
      rw [(txE_is (g e he) x).mpr q] at c
      cases c
    have hgw : ∀ (b : Bool) {s₁ : Shared} {Q' : Unit → Shared → Prop}, Q' () s₁ → wpAny (model P w) A (match b with | true => rule "set.scan.the-table-gave-way" | false => pure ()) Q' E s₁ :=
      fun b s₁ Q' q => by cases b <;> first | exact wpAny_pure q | exact wpAny_rule q
    have p1 := layNew_perm t es ((PySem.strKind P w).hash x) (.str x tk)
    have f1 := layNew_fits t es ((PySem.strKind P w).hash x) (.str x tk)
    have r1 := layNew_ris t es ((PySem.strKind P w).hash x) (.str x tk) hr
    have l1 := layNew_led t es ((PySem.strKind P w).hash x) (.str x tk)
    generalize layNew t es ((PySem.strKind P w).hash x) (.str x tk) = Z at p1 f1 r1 l1 ⊢
    obtain ⟨fs, u, was, gave⟩ := Z
    dsimp only at p1 f1 r1 l1 ⊢
    rw [Array.toList_push] at p1
    have p2 : fs.toList.Perm (((PySem.strKind P w).hash x, Value.str x tk) :: es.toList) := p1.trans (List.perm_append_singleton _ _)
    have g1 : ∀ e ∈ fs.toList, TxE w e := fun e he => by
      rcases List.mem_cons.mp (p2.mem_iff.mp he) with z | z
      · rw [z]; exact ⟨x, tk, rfl, rfl⟩
      · exact g e z
    have p3 : (fs.toList.map txOf).Perm (x :: xs) := (p2.map txOf).trans (List.Perm.cons x pm)
    have nd1 : (x :: xs).Nodup := List.nodup_cons.mpr ⟨hm, nd⟩
    have hz : fs.size < scanBound := by
      have e := p3.length_eq
      rw [List.length_map, Array.length_toList, List.length_cons] at e
      rw [e]; exact room
    have hled : w.params.followText "set-order" = true ∨ u.led = true := hl.imp id fun z => l1.trans z
    have fin : ∀ h', Heap.SameBut a s.heap h' → TxSet w h' a (x :: xs) → Q true { s with heap := h' } := fun h' sb r => hQ h' _ sb (by rw [if_neg hm]; exact r)
    refine wpAny_bind (hgw _ ?_)
    split
    · refine wpAny_bind ?_
      rw [hashByValue_scannable 8 hsc]
      refine wpAny_pure (tx_tail ?_ ho hex hd g1 p3 nd1 hz ?_ ?_ ?_ ?_)
      · intro b s₁ Q' q; cases b <;> first | exact wpAny_pure q | exact wpAny_rule q
      · first | (split <;> first | exact f1 | exact SetTable.fits_plain_off f1) | exact f1
      · first | (split <;> exact r1) | exact r1
      · first | (split <;> exact hled) | exact hled
      · intro h' sb r; dsimp only; exact wpAny_pure (fin h' sb r)
    · refine wpAny_bind (wpAny_pure ?_)
      simp only [↓reduceIte]
      refine tx_tail ?_ ho hex hd g1 p3 nd1 hz f1 r1 hled ?_
      · intro b s₁ Q' q; cases b <;> first | exact wpAny_pure q | exact wpAny_rule q
      · intro h' sb r; dsimp only; exact wpAny_pure (fin h' sb r)
/-- set.add of a text -/
theorem tx_add {x : Str} {tk : Tok} {Q : Value → Shared → Prop} (R : TxSet w s.heap a xs) (room : xs.length + 1 < scanBound)
    (hQ : ∀ h', Heap.SameBut a s.heap h' → TxSet w h' a (if x ∈ xs then xs else x :: xs) → Q .none { s with heap := h', toks := s.toks + 1 }) :
    wpAny (model P w) A (call (.builtin "set.add") [.ref a, .str x tk]) Q E s := by
  have ty : s.TypeIs (.ref a) "set" := by obtain ⟨o, es, ep, t, ho, hex, _⟩ := R; exact ⟨o, ho, hex.1⟩
  refine wpAny_call_entry F.slot_set_add ty F.entry_set_add ?_ (F.args_set_add_2 _ _)
  unfold Builtin.«set.add» Builtin.Frozenset.oneOther
  simp only [List.isEmpty_nil, bind_assoc]
  unfold Builtin.Frozenset.addrOf setAdd
  refine wpAny_bind (wpAny_pure ?_)
  try dsimp only
  refine wpAny_bind (wpAny_pure ?_)
  try dsimp only
  refine wpAny_bind (wpAny_holding (wpAny_bind ((PySem.strKind P w).pyHash (k := x) (by show Value.isStrOf x (.str x tk) = true; simp [Value.isStrOf]) ?_)))
  refine tx_hashed (s := { s with toks := s.toks + 1 }) R room fun h' b sb r => ?_
  show wpAny _ _ (ret Value.none) _ _ _
  exact wpAny_pure ⟨_, rfl, hQ h' sb r⟩
theorem tx_fresh {h : Heap} (w : World) {p : Addr} (hp : h.get? p = some { cls := .type "set", dict := none, data := .set #[] 0 (.fresh 0 0 (!w.params.followText "set-order")) }) : TxSet w h p [] := by
  refine ⟨_, #[], 0, _, hp, ⟨rfl, rfl, rfl⟩, rfl, (fun e he => by simp at he), (by simp), List.nodup_nil, (by decide), (by rfl), List.Pairwise.nil, ?_⟩
  show _ ∨ (!w.params.followText "set-order") = true
  cases w.params.followText "set-order" <;> first | exact .inl rfl | exact .inr rfl
theorem strs_tx : ∀ (l : List Value), (∀ v ∈ l, ∃ x tk, v = Value.str x tk) → StrsAre l (l.map fun v => txOf (0, v))
  | [], _ => .nil
  | v :: l, h => by
    obtain ⟨x, tk, rfl⟩ := h v List.mem_cons_self
    exact .cons x tk (strs_tx l fun u hu => h u (List.mem_cons_of_mem _ hu))
/-- sorted(set of texts) -/
theorem tx_sorted {Q : Value → Shared → Prop} (R : TxSet w s.heap a xs) (hh : A.handled = none) (h64 : xs.length < 64)
    (hQ : ∀ s' p (out : Array Value) (c : Nat) (ys : List Str), (∀ b o, s.heap.get? b = some o → s'.heap.get? b = some o) → s'.gens = s.gens → s'.os = s.os → s.heap.objs.size ≤ p →
      s'.heap.get? p = some (seqObj "list" out c) → StrsAre out.toList ys → ys.Perm xs → sortedS ys = true → Q (.ref p) s') :
    wpAny (model P w) A (call (.builtin "sorted") [.ref a]) Q E s := by
  obtain ⟨o, es, ep, t, ho, hex, hd, g, pm, nd, hb, hf, hr, hl⟩ := R
  refine Calls.call_function_entry kind_sorted plain_sorted entry_sorted (args_sorted1 _) ?_
  unfold Builtin.«sorted»
  refine wpAny_bind (m := checkCount "sorted" 1 1 _) (wpAny_pure ?_)
  refine wpAny_bind (collect_set (A := A.in1) hh ⟨o, ho, hex.1, hd⟩ hf hb hr hl fun s1 vs k1 hz g1 o1 p1 => ?_)
  have hS : StrsAre vs (vs.map fun v => txOf (0, v)) := strs_tx vs fun v hv => by
    obtain ⟨e, he, q⟩ := List.mem_map.mp (p1.mem_iff.mp hv)
    obtain ⟨x, tk, h1, _⟩ := g e he
    exact ⟨x, tk, q.symm.trans h1⟩
  have p2 : (vs.map fun v => txOf (0, v)).Perm xs := by
    have q := p1.map fun v => txOf (0, v)
    rw [List.map_map] at q
    exact q.trans pm
  have hlen : vs.length < 64 := by
    have e := p2.length_eq
    rw [List.length_map] at e
    rw [e]; exact h64
  refine wpAny_bind (wpAny_newList ?_ (by rw [sizeLine_eq]; omega))
  have hoL : (s1.heap.push (seqObj "list" vs.toArray 0)).get? s1.heap.objs.size = some (seqObj "list" vs.toArray 0) := Heap.get?_push_size _ rfl
  refine wpAny_bind (wpAny_holding (wpAny_call_entry slot_list_sort ⟨_, hoL, rfl⟩ entry_list_sort
    (list_sort_treeK strKind_oneLt hoL hS.keysOf (fun v₁ v₂ rest e => keyKind_strs (by rw [← e]; exact hS)) hlen fun st' hp hs => ?_) (args_list_sort _)))
  obtain ⟨ys, b1, b2, b3⟩ := sorted_out_str hS hp hs
  obtain ⟨c, hc⟩ := sortedHeap_at (vs := vs) (out := (arrOf st').map (·.2)) hoL
  refine ⟨_, rfl, wpAny_pure ⟨_, rfl, hQ _ s1.heap.objs.size _ c ys (fun b u e => ?_) g1 o1 hz hc b1 (b2.trans p2) b3⟩⟩
  have q := k1 b u e
  have hlt := Heap.lt_size q
  show (sortedHeap (s1.heap.push (seqObj "list" vs.toArray 0)) s1.heap.objs.size vs _).get? b = some u
  rw [sortedHeap_old (Nat.ne_of_lt hlt) (by rw [size_push']; exact Nat.lt_succ_of_lt hlt)]
  exact Heap.get?_push_of_some _ q
end
end Cl

/-! Comprehensions that make a set of texts, or a dict whose keys are tuples: one core for both. -/
namespace Cl
open PySem PySem.Spec PyProof.Rows L2

/-- the tests of a clause -/
abbrev clauseOk (ifs : List Expr) (env : Env) : Sem Bool := forIn ifs true fun c r => if r = true then do let ok ← isTrue c env (eval c env); pure (ForInStep.yield ok) else pure (ForInStep.yield r)
/-- one turn of a comprehension's loop, where nothing raises: B is what is done with an item that is taken -/
def OneTurn (M : Model) (A : Around) (tg : Expr) (ifs : List Expr) (it : Value) (env : Env) (B : (Shared → Prop) → Shared → Prop) (Stop Next : Shared → Prop) (s : Shared) : Prop :=
  wpAny M A (pyNext it) (fun r s₁ => match r with
    | none => Stop s₁
    | some v => wpAny M A (letOwnedTupleGo tg it v) (fun _ s₂ => wpAny M A (assign tg env v) (fun _ s₃ => wpAny M A (clauseOk ifs env) (fun ok s₄ => if ok = true then B Next s₄ else Next s₄) (fun _ _ => False) s₃) (fun _ _ => False) s₂) (fun _ _ => False) s₁) (fun _ _ => False) s
/-- what the core asks of a kind of comprehension c: the making of the new object o0, its loop, its start -/
structure CompKind (P : Program) (w : World) (A : Around) (c tg : Expr) (ifs : List Expr) (mk : Sem Value) (o0 : Obj) (B : Addr → Env → (Shared → Prop) → Shared → Prop) : Prop where
  make : ∀ (E : Value → Shared → Prop) (Q : Value → Shared → Prop) (s : Shared), Q (.ref s.heap.objs.size) { s with heap := s.heap.push o0 } → wpAny (model P w) A mk Q E s
  loop : ∀ (it : Value) (D : Addr) (env : Env) (R : Result → Shared → Prop) (I : Nat → Shared → Prop), (∀ n s, I n s → OneTurn (model P w) A tg ifs it env (B D env) (fun s' => R (.ok .next) s') (fun s' => ∃ m, m < n ∧ I m s') s) →
    ∀ n s, I n s → codeAny (model P w) A (.compLoop c 0 it (.ref D) env) R s
  start : ∀ (it acc : Value) (env : Env) (R : Result → Shared → Prop) (s : Shared), codeAny (model P w) A (.compLoop c 0 it acc env) R s →
    (∀ E : Value → Shared → Prop, wpAny (model P w) A (pyIter it) (fun it' s' => codeAny (model P w) A (.compLoop c 0 it' acc env) R s') E s) → codeAny (model P w) A (.compStart c 0 it acc env) R s
section
variable {X : Cx}
/-- the reading: D the new object, u0 what stands there at first -/
def tCk (u0 : Addr → HO) (wi : TI) (g : TG) (tt : TT) (tb : Addr → L2.St → Hp → (Hp → Prop) → Prop) (vs : List Nat) : TE := fun σ H Q => wi σ H fun J H1 => ∀ D, H1 D = none → ∃ W : Nat → Nat → Hp → Prop, (∃ m, W 0 m (upd H1 D (u0 D))) ∧ ∀ i m H, W i m H →
  (J.stop i H ∧ Q (.ref D) H) ∨ (J.go i H ∧ ∃ Nx : Hp → Prop, (∀ H', Nx H' → ∃ m', m' < m ∧ W (i + 1) m' H') ∧ ∀ x H', J.yld i H x H' → g x (wipe σ vs) H' fun σ2 H2 => wipe σ2 vs = wipe σ vs ∧ tt σ2 H2 fun b H3 =>
    if b = true then tb D σ2 H3 Nx else Nx H3)
theorem comp_coreU {pins : List (Addr × Obj)} {s : Shared} {σ : L2.St} {H : Hp} {Q : VK} {c tg iter : Expr} {ifs : List Expr} {gs : List Comprehension} {scope : Scope} {own : List (PySem.Str × Nat)} {pos' : Pos} {mk : Sem Value} {o0 : Obj} {u0 : Addr → HO} {wi : TI} {g : TG} {tt : TT}
    {tb : Addr → L2.St → Hp → (Hp → Prop) → Prop} {B : Addr → Env → (Shared → Prop) → Shared → Prop} {use : Option (Value → Sem Unit)} {Qf : Value → Shared → Prop}
    (CK : CompKind X.prog X.w X.A c tg ifs mk o0 B) (hcl : clausesOf c = ⟨tg, iter, ifs, 0⟩ :: gs) (hc : X.calm = true) (hN : X.N.Nodup) (I : Inv X pins σ H s) (hi : PI X tg iter wi) (ok : BlkOk X.N X.env.scope scope own) (hf0 : o0.isFreed = false)
    (hu0 : ∀ (h : Heap) (H' : Hp), sysModules < h.objs.size → ObjOk X.prog X.w H' (h.push o0) h.objs.size (u0 h.objs.size))
    (hg : ∀ (s : Shared) (H : Hp) (C : Addr) (cl : List (PySem.Str × Addr)) (fp : List Addr), PG (X.blk s H scope (compEnvC scope cl C X.env) fp) tg g) (ht : ∀ (s : Shared) (H : Hp) (C : Addr) (cl : List (PySem.Str × Addr)) (fp : List Addr), PTs (X.blk s H scope (compEnvC scope cl C X.env) fp) ifs tt)
    (hb : ∀ (s0 : Shared) (H0 : Hp) (C : Addr) (cl : List (PySem.Str × Addr)) (fp : List Addr) (pins : List (Addr × Obj)) (s1 : Shared) (σ : L2.St) (H1 : Hp) (D : Addr) (Nx : Hp → Prop) (R : Shared → Prop), Inv (X.blk s0 H0 scope (compEnvC scope cl C X.env) fp) pins σ H1 s1 → tb D σ H1 Nx →
      (∀ s' H', Inv (X.blk s0 H0 scope (compEnvC scope cl C X.env) fp) pins σ H' s' → Nx H' → R s') → B D (compEnvC scope cl C X.env) R s1)
    (hs : ∀ x, foldedSetIterable iter X.env x = pure x) (h : tCk u0 wi g tt tb (own.map (·.2)) σ H Q)
    (hRR : ∀ D C s' m H', Inv X pins σ H' s' → Q (.ref D) H' → s'.heap.Ns C m → FpOk X pins H' C → compPost (model X.prog X.w) X.A X.xe use Qf (.ref D) C (.ok .next) s') :
    wpAny (model X.prog X.w) X.A (comprehension c scope X.env pos' mk false (eval iter X.env) use) Qf X.xe s := by
  have hfree : ∀ y ∈ scope.names, y.2 = .free → ∃ c, X.env.cells.lookup y.1 = some c := fun y hy e => (ok.free y hy e).elim (fun k => I.ok.has _ (.inl k)) fun k => I.ok.has _ (.inr k)
  refine wpAny_comprehension_free (use := use) hcl hs (closure_ok hfree) ok.kind (fun y hy e => by rw [ok.uniq y hy, e]) (thn (hi.run pins s σ H _ I h) fun xv s1 hx => thn hx fun itv s2 h2 => ?_)
  obtain ⟨it, fp, tn, J, H2, rfl, I2, T, st2, f2, q⟩ := h2
  refine CK.make _ _ _ (newEnv_comp ?_)
  generalize hD : s2.heap.objs.size = D
  have hDn : H2 D = none := I2.hok.fresh (Nat.le_of_eq hD)
  obtain ⟨W, ⟨m0, w0⟩, turn⟩ := q D hDn
  generalize hs3 : ({ s2 with heap := s2.heap.push o0 } : Shared) = s3
  have h3 : s3.heap = s2.heap.push o0 := by rw [← hs3]
  have I3 : Inv X pins σ (upd H2 D (u0 D)) s3 := by
    rw [← hs3, ← hD]
    exact I2.laid (t' := s2.toks) (fun b o e => Heap.get?_push_of_some _ e) (Nat.le_refl _) (hu0 s2.heap _ I2.big)
  have sz : ∀ b ∈ fp, b < s2.heap.objs.size := fun b hb => by
    obtain ⟨o, e, _⟩ := T.obj _ _ st2 b hb
    exact Heap.lt_size e
  have f3 : ∀ b ∈ fp, FpOk X pins (upd H2 D (u0 D)) b ∧ b < s3.heap.objs.size := fun b hb => by
    have hlt := sz b hb
    have hne : b ≠ D := by rw [← hD]; exact Nat.ne_of_lt hlt
    exact ⟨⟨by rw [upd_ne hne]; exact (f2 b hb).1, (f2 b hb).2⟩, by rw [h3, Heap.size_push]; exact Nat.lt_succ_of_lt hlt⟩
  have st3 : tn 0 s3.heap := T.keep _ _ _ st2 fun b _ o e => by rw [h3]; exact Heap.get?_push_of_some _ e
  have I4 := block_start I3 ok hN f3
  have pg := hg s3 (upd H2 D (u0 D)) s3.heap.objs.size (cellsFrom (s3.heap.objs.size + 1) scope.names (cloFrom X.env.cells scope.names [])) fp
  have pt := ht s3 (upd H2 D (u0 D)) s3.heap.objs.size (cellsFrom (s3.heap.objs.size + 1) scope.names (cloFrom X.env.cells scope.names [])) fp
  have pb := hb s3 (upd H2 D (u0 D)) s3.heap.objs.size (cellsFrom (s3.heap.objs.size + 1) scope.names (cloFrom X.env.cells scope.names [])) fp
  show codeAny _ _ (.compStart c 0 (.ref it) (.ref D) (compEnvC scope (cellsFrom (s3.heap.objs.size + 1) scope.names (cloFrom X.env.cells scope.names [])) s3.heap.objs.size X.env)) (compPost (model X.prog X.w) X.A X.xe use Qf (.ref D) s3.heap.objs.size) { s3 with heap := pushCells (s3.heap.push { cls := .type "dict", data := .dict #[] }) scope.names }
  have nfp : ∀ b ∈ fp, (upd H2 D (u0 D)) b = none := fun b hb => (f3 b hb).1.1
  generalize hce : compEnvC scope (cellsFrom (s3.heap.objs.size + 1) scope.names (cloFrom X.env.cells scope.names [])) s3.heap.objs.size X.env = ce at I4 pg pt pb ⊢
  have cL : ce.locals = s3.heap.objs.size := by rw [← hce]; rfl
  generalize hH3 : upd H2 D (u0 D) = H3 at I3 I4 pg pt pb w0 nfp f3
  generalize hs4 : ({ s3 with heap := pushCells (s3.heap.push { cls := .type "dict", data := .dict #[] }) scope.names } : Shared) = s4 at I4 ⊢
  have st4 : tn 0 s4.heap := T.keep _ _ _ st3 fun b _ o e => by rw [← hs4]; exact pushCells_keeps _ _ _ _ (Heap.get?_push_of_some _ e)
  have stat : ∀ {σ' : L2.St} {H' : Hp} {s' : Shared}, Inv (X.blk s3 H3 scope ce fp) [] σ' H' s' → (∀ b ∈ fp, H' b = none) → ∀ b ∈ fp, FpOk (X.blk s3 H3 scope ce fp) [] H' b := fun {σ' H' s'} I' hn b hb =>
    ⟨hn b hb, (I'.ok.exf b hb).1, I'.ok.exfs b hb, .inl hb, fun x c e => (I'.ok.exf b hb).2 x c e, fun p hp => absurd (show p ∈ ([] : List (Addr × Obj)) ++ [] from hp) (by simp)⟩
  have loop : codeAny (model X.prog X.w) X.A (.compLoop c 0 (.ref it) (.ref D) ce) (compPost (model X.prog X.w) X.A X.xe use Qf (.ref D) s3.heap.objs.size) s4 := by
    refine CK.loop (.ref it) D ce _ (fun n s' => ∃ i H', Inv (X.blk s3 H3 scope ce fp) [] (wipe σ (own.map (·.2))) H' s' ∧ tn i s'.heap ∧ (∀ b ∈ fp, H' b = none) ∧ W i n H') ?_ m0 _ ⟨0, H3, I4, st4, nfp, w0⟩
    rintro n s5 ⟨i, H5, I5, st5, n5, w5⟩
    rcases turn i n H5 w5 with ⟨stop, qq⟩ | ⟨go, Nx, hNx, step⟩
    · refine thnF (T.done (X.blk s3 H3 scope ce fp) rfl rfl rfl hc i [] s5 _ H5 (fun _ _ => False) I5 (stat I5 n5) st5 stop) fun r s6 ⟨hr, I6⟩ => ?_
      subst hr
      have I7 : Inv X pins σ H5 s6 := I3.call' (ch := fp) I6.os I6.base I6.hok I6.bare fun b hb => ⟨(f3 b hb).1.2.2.2.1, (f3 b hb).1.2.1, (f3 b hb).1.2.2.2.2.1, (f3 b hb).1.2.2.2.2.2⟩
      have nC : H5 s3.heap.objs.size = none := cL ▸ (show H5 ce.locals = none from I6.free)
      obtain ⟨m, hn, _⟩ := I6.loc
      have hn : s6.heap.Ns s3.heap.objs.size m := cL ▸ (show s6.heap.Ns ce.locals m from hn)
      exact hRR D s3.heap.objs.size s6 m H5 I7 qq hn (I3.fpOk (H' := H5) (Nat.le_refl _) nC)
    · refine thnF (T.item (X.blk s3 H3 scope ce fp) rfl rfl rfl hc i [] s5 _ H5 (fun _ _ => False) I5 (stat I5 n5) st5 go) fun r s6 ⟨u, hr, h6⟩ => ?_
      subst hr
      refine thnF h6 fun _ s7 ⟨x, H7, I7, r7, y7, st7, n7⟩ => ?_
      have I7' := I7.pinned (stat I7 n7) (T.obj _ _ st7)
      refine thnF (pg.run _ s7 _ H7 x u _ I7' r7 (step x H7 y7)) fun _ s8 ⟨σ8, H8, I8, hw8, q8⟩ => ?_
      refine thnF (pt.run _ s8 σ8 H8 _ I8 q8) fun b s9 ⟨H9, I9, q9⟩ => ?_
      have fin : ∀ {s' : Shared} {H' : Hp}, Inv (X.blk s3 H3 scope ce fp) ([] ++ pinsAt fp s7.heap) σ8 H' s' → Nx H' → ∃ m, m < n ∧ ∃ i H', Inv (X.blk s3 H3 scope ce fp) [] (wipe σ (own.map (·.2))) H' s' ∧ tn i s'.heap ∧ (∀ b ∈ fp, H' b = none) ∧ W i m H' := fun {s' H'} I' nx => by
        obtain ⟨m', hm, w'⟩ := hNx H' nx
        have pin' : ∀ b ∈ fp, ∀ o, s7.heap.get? b = some o → s'.heap.get? b = some o ∧ H' b = none := fun b hb o e =>
          let z := I'.pin (b, o) (List.mem_append_right _ (List.mem_append_right _ (mem_pinsAt hb e)))
          ⟨z.1, z.2.1⟩
        have hl : (wipe σ (own.map (·.2))).length = σ8.length := by rw [← hw8, wipe_length]
        refine ⟨m', hm, i + 1, H', (I'.unpinned (pins := [])).weak hl (fun j v e => (wipe_some (by rw [← hw8] at e; exact e)).1), T.keep _ _ _ st7 fun b hb o e => (pin' b hb o e).1, fun b hb => ?_, w'⟩
        obtain ⟨o, e, _⟩ := T.obj _ _ st7 b hb
        exact (pin' b hb o e).2
      cases b with
      | false =>
        simp only [Bool.false_eq_true, if_false] at q9 ⊢
        exact fin I9 q9
      | true =>
        simp only [if_true] at q9 ⊢
        exact pb _ s9 σ8 H9 D Nx _ I9 q9 fun s' H' I' nx => fin I' nx
  exact CK.start _ _ _ _ _ loop fun E => T.self X.A 0 _ _ _ st4 loop
theorem comp_core {pins : List (Addr × Obj)} {s : Shared} {σ : L2.St} {H : Hp} {Q : VK} {c tg iter : Expr} {ifs : List Expr} {gs : List Comprehension} {scope : Scope} {own : List (PySem.Str × Nat)} {pos' : Pos} {mk : Sem Value} {o0 : Obj} {u0 : Addr → HO} {wi : TI} {g : TG} {tt : TT}
    {tb : Addr → L2.St → Hp → (Hp → Prop) → Prop} {B : Addr → Env → (Shared → Prop) → Shared → Prop}
    (CK : CompKind X.prog X.w X.A c tg ifs mk o0 B) (hcl : clausesOf c = ⟨tg, iter, ifs, 0⟩ :: gs) (hc : X.calm = true) (hN : X.N.Nodup) (I : Inv X pins σ H s) (hi : PI X tg iter wi) (ok : BlkOk X.N X.env.scope scope own) (hf0 : o0.isFreed = false)
    (hu0 : ∀ (h : Heap) (H' : Hp), sysModules < h.objs.size → ObjOk X.prog X.w H' (h.push o0) h.objs.size (u0 h.objs.size))
    (hg : ∀ (s : Shared) (H : Hp) (C : Addr) (cl : List (PySem.Str × Addr)) (fp : List Addr), PG (X.blk s H scope (compEnvC scope cl C X.env) fp) tg g) (ht : ∀ (s : Shared) (H : Hp) (C : Addr) (cl : List (PySem.Str × Addr)) (fp : List Addr), PTs (X.blk s H scope (compEnvC scope cl C X.env) fp) ifs tt)
    (hb : ∀ (s0 : Shared) (H0 : Hp) (C : Addr) (cl : List (PySem.Str × Addr)) (fp : List Addr) (pins : List (Addr × Obj)) (s1 : Shared) (σ : L2.St) (H1 : Hp) (D : Addr) (Nx : Hp → Prop) (R : Shared → Prop), Inv (X.blk s0 H0 scope (compEnvC scope cl C X.env) fp) pins σ H1 s1 → tb D σ H1 Nx →
      (∀ s' H', Inv (X.blk s0 H0 scope (compEnvC scope cl C X.env) fp) pins σ H' s' → Nx H' → R s') → B D (compEnvC scope cl C X.env) R s1)
    (hs : ∀ x, foldedSetIterable iter X.env x = pure x) (h : tCk u0 wi g tt tb (own.map (·.2)) σ H Q) :
    wpAny (model X.prog X.w) X.A (comprehension c scope X.env pos' mk false (eval iter X.env) none) (EP X pins σ Q) X.xe s :=
  comp_coreU CK hcl hc hN I hi ok hf0 hu0 hg ht hb hs h fun D C s' m H' I' q hn f => ⟨m, hn, fun h'' sb => let ⟨f0, f1, _, f3, f4, f5⟩ := f; ⟨.ref D, H', I'.turned (t' := s'.toks) (fun b o hb e => (sb.2 b hb).trans e) f0 f1 f3 f4 f5, rfl, q⟩⟩
end
end Cl

/-! {e for ..} of texts, {k: v for ..} with tuple keys, sorted of sets of texts and of lists of texts. -/
namespace Cl
open PySem PySem.Spec PyProof.Rows L2

/-- the set of the texts xs at a -/
def TxO (w : World) (a : Addr) (xs : List Str) : HO := .ext fun h => TxSet w h a xs
theorem txSet_at {w : World} {h h' : Heap} {a : Addr} {xs : List Str} (R : TxSet w h a xs) (k : ∀ o, h.get? a = some o → h'.get? a = some o) : TxSet w h' a xs := by
  obtain ⟨o, es, ep, t, ho, r⟩ := R
  exact ⟨o, es, ep, t, k o ho, r⟩
theorem txO_new {P : Program} {w : World} {H : Hp} {h : Heap} {a : Addr} {xs : List Str} (R : TxSet w h a xs) : ObjOk P w H h a (TxO w a xs) :=
  ⟨R, let ⟨o, _, _, _, ho, _⟩ := R; ⟨o, ho⟩, fun _ _ p k => txSet_at p k⟩
def setObj0 (w : World) : Obj := { cls := .type "set", dict := none, data := .set #[] 0 (.fresh 0 0 (!w.params.followText "set-order")) }
theorem kind_set {P : Program} {w : World} {A : Around} {elt tg iter : Expr} {ifs : List Expr} {scope : Scope} {pos : Pos} :
    CompKind P w A (.SetComp elt [⟨tg, iter, ifs, 0⟩] scope pos) tg ifs (newSet (.type "set")) (setObj0 w)
      (fun D env R s => wpAny (model P w) A (eval elt env) (fun x s1 => wpAny (model P w) A (call (.builtin "set.add") [.ref D, x]) (fun _ s2 => R s2) (fun _ _ => False) s1) (fun _ _ => False) s) where
  make := fun E Q s h => PpSet.newSet_ok h
  loop := fun it D env R I h n s hI => by
    refine PpSet.compLoopS_any I (fun n s hI => thnF (h n s hI) fun r s1 q => ?_) n hI
    cases r with
    | none => exact q
    | some v =>
      refine thnF q fun _ s2 q => thnF q fun _ s3 q => thnF q fun ok s4 q => ?_
      cases ok with
      | false => exact q
      | true => exact thnF q fun x s5 q => thnF q fun _ s6 q => q
  start := fun it acc env R s h0 h => PpSet.codeAny_compStart_set h0 (h _)
theorem kind_dict {P : Program} {w : World} {A : Around} {kx vx tg iter : Expr} {ifs : List Expr} {scope : Scope} {pos : Pos} :
    CompKind P w A (.DictComp kx vx [⟨tg, iter, ifs, 0⟩] scope pos) tg ifs newDict { cls := .type "dict", data := .dict #[] }
      (fun D env R s => wpAny (model P w) A (eval kx env) (fun k s1 => wpAny (model P w) A (eval vx env) (fun v s2 => wpAny (model P w) A (dictSet D k v) (fun _ s3 => R s3) (fun _ _ => False) s2) (fun _ _ => False) s1) (fun _ _ => False) s) where
  make := fun E Q s h => wpAny_newObj_type h
  loop := fun it D env R I h n s hI => by
    refine compLoop_anyD I (fun n s hI => thnF (h n s hI) fun r s1 q => ?_) n hI
    cases r with
    | none => exact q
    | some v =>
      refine thnF q fun _ s2 q => thnF q fun _ s3 q => thnF q fun ok s4 q => ?_
      cases ok with
      | false => exact q
      | true => exact thnF q fun x s5 q => thnF q fun _ s6 q => thnF q fun _ s7 q => q
  start := fun it acc env R s h0 h => codeAny_compStart_dict h0 (h _)
/-- the reading of an element: a text, put into the set -/
def tbS (w : World) (te : TE) : Addr → L2.St → Hp → (Hp → Prop) → Prop := fun D σ H Nx => te σ H fun y H1 => ∃ (x : Str) (xs : List Str), y = .str x ∧ H1 D = some (TxO w D xs) ∧ xs.length + 1 < scanBound ∧ Nx (upd H1 D (TxO w D (if x ∈ xs then xs else x :: xs)))
/-- the reading of an entry: a tuple of texts and ints, and a value -/
def tbD (tk tv : TE) : Addr → L2.St → Hp → (Hp → Prop) → Prop := fun D σ H Nx => tk σ H fun y H1 => tv σ H1 fun z H2 => ∃ (b : Addr) (k : List Key) (kvs : List (List Key × V)), y = .ref b ∧ H2 b = some (.tup (k.map kV)) ∧ H2 D = some (.dT kvs) ∧ kvs.length < sizeLine ∧ Nx (upd H2 D (.dT (putK kvs k z)))
section
variable {X : Cx}
theorem pe_scS {elt tg iter : Expr} {ifs : List Expr} {scope : Scope} {own : List (PySem.Str × Nat)} {pos : Pos} {wi : TI} {g : TG} {tt : TT} {te : TE} (hc : X.calm = true) (hN : X.N.Nodup) (hi : PI X tg iter wi) (ok : BlkOk X.N X.env.scope scope own)
    (hg : ∀ (s : Shared) (H : Hp) (C : Addr) (cl : List (PySem.Str × Addr)) (fp : List Addr), PG (X.blk s H scope (compEnvC scope cl C X.env) fp) tg g) (ht : ∀ (s : Shared) (H : Hp) (C : Addr) (cl : List (PySem.Str × Addr)) (fp : List Addr), PTs (X.blk s H scope (compEnvC scope cl C X.env) fp) ifs tt)
    (he : ∀ (s : Shared) (H : Hp) (C : Addr) (cl : List (PySem.Str × Addr)) (fp : List Addr), PE (X.blk s H scope (compEnvC scope cl C X.env) fp) elt te) (hs : ∀ x, foldedSetIterable iter X.env x = pure x := by intro _; rfl) :
    PE X (.SetComp elt [⟨tg, iter, ifs, 0⟩] scope pos) (tCk (fun D => TxO X.w D []) wi g tt (tbS X.w te) (own.map (·.2))) := by
  refine ⟨fun pins s σ H Q I h => ?_⟩
  rw [PpSet.eval_SetComp]
  refine comp_core kind_set rfl hc hN I hi ok rfl (fun h H' _ => txO_new (tx_fresh X.w (Heap.get?_push_size _ rfl))) hg ht (fun s0 H0 C cl fp pins s1 σ H1 D Nx R I1 hb k => ?_) hs h
  refine thnF ((he s0 H0 C cl fp).run _ s1 σ H1 _ I1 hb) fun v s2 ⟨y, H2, I2, r2, x, xs, ey, hD, hz, nx⟩ => ?_
  subst ey
  obtain ⟨tk, rfl⟩ := r2
  refine tx_add (I2.hok D _ hD).1 hz fun h' sb new => k _ _ (I2.write (e := D) (t' := s2.toks + 1) (by rw [hD]; trivial) (.inl rfl) (fun b u hb hu => (sb.2 b hb).trans hu) ?_ (txO_new new)) nx
  obtain ⟨o, _, _, _, ho, _⟩ := new
  exact ⟨o, ho⟩
theorem d_dictSetT {A : Around} {pins : List (Addr × Obj)} {σ : L2.St} {H : Hp} {s : Shared} {E : Value → Shared → Prop} {D b : Addr} {kvs : List (List Key × V)} {k : List Key} {v : V} {r : Value} {Q : Unit → Shared → Prop} (hu : A.units + 1 < cLine) (I : Inv X pins σ H s)
    (hD : H D = some (.dT kvs)) (hb : H b = some (.tup (k.map kV))) (hz : kvs.length < sizeLine) (rv : RelV v r) (h : ∀ s', Inv X pins σ (upd H D (.dT (putK kvs k v))) s' → Q () s') : wpAny (model X.prog X.w) A (dictSet D (.ref b) r) Q E s := by
  obtain ⟨z, hd, xs, rel, dd⟩ := dt_of I.hok hD
  have hzv : xs.length ≤ sizeLine := by rw [← Paired.length rel]; exact z
  have hl : (putK kvs k v).length ≤ sizeLine := by have := length_putK kvs k v; omega
  refine wpAny_dictSet_heap (hsz := hzv) (show A.units < cLine from Nat.lt_of_succ_lt hu) (key_of I.hok hb) dd fun h' dd' hs => h _ ?_
  obtain ⟨q, es, ep, hq, h2, h3, h4, _, h5⟩ := dd'
  refine d_write I (by rw [hD]; exact True.intro) hs ⟨q, hq⟩ ⟨hl, hd, _, (rel.put k hb rv).keeps fun c ys ec => ?_, q, es, ep, hq, h2, h3, h4, h5⟩
  rw [upd_ne (ne_of ec hD (fun z => nomatch z))]
  exact ec
theorem pe_dcT {kx vx tg iter : Expr} {ifs : List Expr} {scope : Scope} {own : List (PySem.Str × Nat)} {pos : Pos} {wi : TI} {g : TG} {tt : TT} {tk tv : TE} (hu : X.A.units + 1 < cLine) (hc : X.calm = true) (hN : X.N.Nodup) (hi : PI X tg iter wi) (ok : BlkOk X.N X.env.scope scope own)
    (hg : ∀ (s : Shared) (H : Hp) (C : Addr) (cl : List (PySem.Str × Addr)) (fp : List Addr), PG (X.blk s H scope (compEnvC scope cl C X.env) fp) tg g) (ht : ∀ (s : Shared) (H : Hp) (C : Addr) (cl : List (PySem.Str × Addr)) (fp : List Addr), PTs (X.blk s H scope (compEnvC scope cl C X.env) fp) ifs tt)
    (hk : ∀ (s : Shared) (H : Hp) (C : Addr) (cl : List (PySem.Str × Addr)) (fp : List Addr), PE (X.blk s H scope (compEnvC scope cl C X.env) fp) kx tk)
    (hv : ∀ (s : Shared) (H : Hp) (C : Addr) (cl : List (PySem.Str × Addr)) (fp : List Addr), PE (X.blk s H scope (compEnvC scope cl C X.env) fp) vx tv) (hs : ∀ x, foldedSetIterable iter X.env x = pure x := by intro _; rfl) :
    PE X (.DictComp kx vx [⟨tg, iter, ifs, 0⟩] scope pos) (tCk (fun _ => .dT []) wi g tt (tbD tk tv) (own.map (·.2))) := by
  refine ⟨fun pins s σ H Q I h => ?_⟩
  rw [arm_eval_DictComp]
  refine comp_core kind_dict rfl hc hN I hi ok rfl (fun h H' hs => dt_empty h hs) hg ht (fun s0 H0 C cl fp pins s1 σ H1 D Nx R I1 hb k => ?_) hs h
  refine thnF ((hk s0 H0 C cl fp).run _ s1 σ H1 _ I1 hb) fun u s2 ⟨y, H2, I2, r2, q2⟩ => ?_
  refine thnF ((hv s0 H0 C cl fp).run _ s2 σ H2 _ I2 q2) fun z s3 ⟨yv, H3, I3, r3, b, kk, kvs, ey, hb, hD, hz, nx⟩ => ?_
  subst ey
  cases r2
  exact d_dictSetT (X := X.blk s0 H0 scope (compEnvC scope cl C X.env) fp) hu I3 hD hb hz r3 fun s4 I4 => k _ _ I4 nx
theorem ps_setDcT {i : Nat} {y : Str} {py : Pos} {kx vx tg iter : Expr} {ifs : List Expr} {scope : Scope} {own : List (PySem.Str × Nat)} {pos spos : Pos} {wi : TI} {g : TG} {tt : TT} {tk tv : TE} (hu : X.A.units + 1 < cLine) (hc : X.calm = true) (hN : X.N.Nodup) (hy : X.N[i]? = some y) (hyl : X.env.scope.names.lookup y = some .local)
    (hsw : swapsWith (.DictComp kx vx [⟨tg, iter, ifs, 0⟩] scope pos) (some (.Name y py)) spos.line X.env = pure true) (hi : PI X tg iter wi) (ok : BlkOk X.N X.env.scope scope own)
    (hg : ∀ (s : Shared) (H : Hp) (C : Addr) (cl : List (PySem.Str × Addr)) (fp : List Addr), PG (X.blk s H scope (compEnvC scope cl C X.env) fp) tg g) (ht : ∀ (s : Shared) (H : Hp) (C : Addr) (cl : List (PySem.Str × Addr)) (fp : List Addr), PTs (X.blk s H scope (compEnvC scope cl C X.env) fp) ifs tt)
    (hk : ∀ (s : Shared) (H : Hp) (C : Addr) (cl : List (PySem.Str × Addr)) (fp : List Addr), PE (X.blk s H scope (compEnvC scope cl C X.env) fp) kx tk)
    (hv : ∀ (s : Shared) (H : Hp) (C : Addr) (cl : List (PySem.Str × Addr)) (fp : List Addr), PE (X.blk s H scope (compEnvC scope cl C X.env) fp) vx tv) (hs : ∀ x, foldedSetIterable iter X.env x = pure x := by intro _; rfl) :
    PS X (.Assign [.Name y py] (.DictComp kx vx [⟨tg, iter, ifs, 0⟩] scope pos) spos) (tAsg (tCk (fun _ => .dT []) wi g tt (tbD tk tv) (own.map (·.2))) (gName i)) := by
  refine ⟨fun pins s σ H D I h => ?_⟩
  rw [exec_Assign_Name_used _ _ _ _ hsw]
  refine wpAny_bind (wpAny_standAt (wpAny_bind ?_))
  show wpAny _ X.A (do let _ ← comprehension (.DictComp kx vx [⟨tg, iter, ifs, 0⟩] scope pos) scope X.env (firstIterPos [⟨tg, iter, ifs, 0⟩] pos) newDict false (eval iter X.env) (some (assign (.Name y py) X.env))) _ _ s
  have h : tCk (fun _ => .dT []) wi g tt (tbD tk tv) (own.map (·.2)) σ H (fun x H1 => gName i x σ H1 D.nx) := h
  refine wpAny_bind (thn (comp_coreU (Qf := fun _ s' => SP X pins D .next s') kind_dict rfl hc hN I hi ok rfl (fun h H' hs => dt_empty h hs) hg ht (fun s0 H0 C cl fp pins s1 σ H1 D Nx R I1 hb k => ?_) hs h fun L C s' m H' I' q hn f => ?_) fun _ s' hq => wpAny_pure (wpAny_pure hq))
  · refine thnF ((hk s0 H0 C cl fp).run _ s1 σ H1 _ I1 hb) fun u s2 ⟨y, H2, I2, r2, q2⟩ => ?_
    refine thnF ((hv s0 H0 C cl fp).run _ s2 σ H2 _ I2 q2) fun z s3 ⟨yv, H3, I3, r3, b, kk, kvs, ey, hb, hD, hz, nx⟩ => ?_
    subst ey
    cases r2
    exact d_dictSetT (X := X.blk s0 H0 scope (compEnvC scope cl C X.env) fp) hu I3 hD hb hz r3 fun s4 I4 => k _ _ I4 nx
  show wpAny _ _ (assign (.Name y py) X.env (.ref L)) _ _ _
  refine wpAny_assign_Name (store_ok2 (v := V.ref L) I' hN hy (.inl hyl) rfl (fun s2 I2 ⟨a, sb, ha⟩ => ?_) (.inr hyl))
  obtain ⟨f0, f1, f2, f3, f4, f5⟩ := f
  have haC : C ≠ a := by
    rcases ha with z | z
    · rw [z]; exact f1
    · exact fun e => f4 y a z e.symm
  refine ⟨m, hn.sameBut sb haC, fun h3 sb3 => ?_⟩
  exact ⟨_, H', I2.turned (t' := s2.toks) (fun b o hb e => (sb3.2 b hb).trans e) f0 f1 f3 f4 f5, q⟩
theorem sw_trueD {kx vx : Expr} {gs : List Comprehension} {scope : Scope} {pos py : Pos} {y : PySem.Str} {l : Nat} {env : Env} (hk : env.scope.kind = .function) (hy : env.scope.names.lookup y = some .local) (hl : (py.line == pos.line) = true)
    (ha : (scope.names.any fun (n, k) => n == y && (k == .local || k == .cell)) = false) : swapsWith (.DictComp kx vx gs scope pos) (some (.Name y py)) l env = pure true := by
  have ky : env.kindOf y = some .local := hy
  have hb : env.blockKind = .function := by unfold Env.blockKind; rw [hk]; rfl
  unfold swapsWith
  simp only [hb, ky, ha, Expr.pos, hl]
  rfl
/-- sorted(set of texts) -/
def rSortedX (w : World) : List V → Hp → VK → Prop := fun vs H Q => ∃ (a : Addr) (xs : List Str), vs = [V.ref a] ∧ H a = some (TxO w a xs) ∧ xs.length < 64 ∧ ∀ (ys : List Str) (p : Addr), ys.Perm xs → sortedS ys = true → xs.Nodup → H p = none → Q (.ref p) (upd H p (.lst (ys.map V.str)))
theorem vals_strsAre : ∀ {us : List Value} {ys : List Str}, StrsAre us ys → Vals (ys.map V.str) us
  | _, _, .nil => .nil
  | _, _, .cons x t h => .cons ⟨t, rfl⟩ (vals_strsAre h)
theorem cr_sortedX (hc : X.calm = true) : CallR X (.builtin "sorted") (rSortedX X.w) := by
  intro pins s σ H vs us Q I r h
  obtain ⟨a, xs, rfl, ha, h64, q⟩ := h
  rw [Vals.ref1 r]
  have R := (I.hok a _ ha).1
  have nd : xs.Nodup := by obtain ⟨_, _, _, _, _, _, _, _, _, nd, _⟩ := R; exact nd
  refine tx_sorted R (I.ok.hd hc) h64 fun s' p out c ys kp hg ho hp hL hS pm so => ?_
  have hn : H p = none := I.hok.fresh hp
  have hlen : (ys.map V.str).length ≤ sizeLine := by rw [List.length_map, pm.length_eq]; exact small64 h64
  obtain ⟨h1, g1, d1, t1, o1⟩ := s'
  obtain rfl : o1 = s.os := ho
  have J : Inv X pins σ (upd H p (.lst (ys.map V.str))) { s with heap := h1, gens := g1, drawn := d1, toks := t1 } :=
    I.call (ch := []) (Un.laid kp hp hn) (I.hok.laid kp hp ⟨hlen, out.toList, c, vals_strsAre hS, hL⟩) (by rw [show g1 = s.gens from hg]; exact I.bare) (fun _ z => nomatch z)
  exact ⟨.ref p, _, J, rfl, q ys p pm so nd hn⟩
/-- sorted(list of texts), any length -/
def rSortedSA (K : PySem.W.Frag) : List V → Hp → VK → Prop := fun vs H Q => ∃ (a : Addr) (xs : List Str), vs = [V.ref a] ∧ SqL K H a (xs.map V.str) ∧
  ∀ (ys : List Str) (p : Addr), ys.Perm xs → sortedS ys = true → H p = none → Q (.ref p) (upd H p (.lst (ys.map V.str)))
theorem cr_sortedSA : CallR X (.builtin "sorted") (rSortedSA X.K) := by
  intro pins s σ H vs us Q I r h
  obtain ⟨a, xs, rfl, hs, q⟩ := h
  obtain ⟨its, rv, hl, hz⟩ := I.list hs
  rw [Vals.ref1 r]
  have hlen0 := rv.length
  rw [List.length_map] at hlen0 hz
  refine PyProof.Rows.sorted_strsAny hl.isList rv.strs (by rw [← hlen0]; exact hz) fun out ys h1 h2 h3 => ?_
  obtain ⟨ep, he'⟩ := PyProof.Rows.sortedAll_at s.heap its out
  have hlen : (ys.map V.str).length ≤ sizeLine := by rw [List.length_map, h2.length_eq]; exact hz
  exact ⟨.ref _, upd H (s.heap.objs.size + 1) (.lst (ys.map V.str)), I.laid (t' := s.toks) (fun _ _ => PyProof.Rows.sortedAll_old) (Nat.le_succ _) ⟨hlen, out.toList, ep, vals_strsAre h1, he'⟩, rfl, q ys _ h2 h3 (I.hok.fresh (Nat.le_succ _))⟩
end
end Cl

/-! Carryclaim: the locals of a procedure as one sorted list; a comprehension with a test. -/
namespace Cl
open PySem PySem.Spec PyProof.Rows L2

abbrev ltT (a b : Str) : Prop := TL.tl a < TL.tl b
theorem ltT_irr (a : Str) : ¬ ltT a a := List.lt_irrefl _
theorem ltT_trans {a b c : Str} (h1 : ltT a b) (h2 : ltT b c) : ltT a c := List.lt_trans h1 h2
theorem ltT_of {a b : Str} (h : ¬ ltT b a) (n : a ≠ b) : ltT a b := by
  by_cases q : ltT a b
  · exact q
  · exact absurd (TL.ext_tl (List.le_antisymm (List.not_lt.mp h) (List.not_lt.mp q))) n
theorem ltT_neg {a b c : Str} (h1 : ¬ ltT b a) (h2 : ¬ ltT c b) : ¬ ltT c a := fun h => by
  have e1 := List.not_lt.mp h1
  have e2 := List.not_lt.mp h2
  exact absurd h (List.not_lt.mpr (List.le_trans e1 e2))
theorem rising_all : ∀ (l : List Str) (p : Str), risingS p l = true → (∀ x ∈ l, ¬ ltT x p) ∧ l.Pairwise (fun a b => ¬ ltT b a)
  | [], _, _ => ⟨by simp, .nil⟩
  | x :: r, p, h => by
    have h' : (!PySem.Spec.ltCps x.cps.toList p.cps.toList && risingS x r) = true := h
    rw [Bool.and_eq_true] at h'
    obtain ⟨i1, i2⟩ := rising_all r x h'.2
    have h1 : ¬ ltT x p := by
      have q := h'.1
      rw [ltCps_eq] at q
      simpa using q
    refine ⟨fun y hy => ?_, List.pairwise_cons.mpr ⟨fun y hy => i1 y hy, i2⟩⟩
    rcases List.mem_cons.mp hy with rfl | hy
    · exact h1
    · exact ltT_neg h1 (i1 y hy)
theorem sortedS_pw {l : List Str} (h : sortedS l = true) : l.Pairwise (fun a b => ¬ ltT b a) := by
  cases l with
  | nil => exact .nil
  | cons x r =>
    obtain ⟨h1, h2⟩ := rising_all r x h
    exact List.pairwise_cons.mpr ⟨h1, h2⟩
/-- ascending, each once -/
abbrev Asc (l : List Str) : Prop := l.Pairwise ltT
theorem asc_of {l : List Str} (h : l.Pairwise (fun a b => ¬ ltT b a)) (n : l.Nodup) : Asc l := by
  induction l with
  | nil => exact .nil
  | cons x r ih =>
    obtain ⟨h1, h2⟩ := List.pairwise_cons.mp h
    obtain ⟨n1, n2⟩ := List.nodup_cons.mp n
    exact List.pairwise_cons.mpr ⟨fun y hy => ltT_of (h1 y hy) fun e => n1 (e ▸ hy), ih h2 n2⟩
theorem asc_uniq : ∀ {l m : List Str}, Asc l → Asc m → (∀ x, x ∈ l ↔ x ∈ m) → l = m
  | [], [], _, _, _ => rfl
  | [], y :: m, _, _, h => absurd ((h y).mpr List.mem_cons_self) (by simp)
  | x :: l, [], _, _, h => absurd ((h x).mp List.mem_cons_self) (by simp)
  | x :: l, y :: m, hl, hm, h => by
    obtain ⟨l1, l2⟩ := List.pairwise_cons.mp hl
    obtain ⟨m1, m2⟩ := List.pairwise_cons.mp hm
    have e : x = y := by
      rcases List.mem_cons.mp ((h x).mp List.mem_cons_self) with e | hx
      · exact e
      · rcases List.mem_cons.mp ((h y).mpr List.mem_cons_self) with e | hy
        · exact e.symm
        · exact absurd (ltT_trans (m1 x hx) (l1 y hy)) (ltT_irr _)
    subst e
    rw [asc_uniq l2 m2 fun z => ⟨fun hz => ?_, fun hz => ?_⟩]
    · rcases List.mem_cons.mp ((h z).mp (List.mem_cons_of_mem _ hz)) with e | q
      · exact absurd (l1 z hz) (by rw [e]; exact ltT_irr _)
      · exact q
    · rcases List.mem_cons.mp ((h z).mpr (List.mem_cons_of_mem _ hz)) with e | q
      · exact absurd (m1 z hz) (by rw [e]; exact ltT_irr _)
      · exact q
def insT (x : Str) : List Str → List Str
  | [] => [x]
  | y :: r => if x = y then y :: r else if TL.tl x < TL.tl y then x :: y :: r else y :: insT x r
theorem insT_mem (x : Str) : ∀ (l : List Str) (z : Str), z ∈ insT x l ↔ z = x ∨ z ∈ l
  | [], z => by simp [insT]
  | y :: r, z => by
    unfold insT
    split
    · rename_i e; subst e; simp
    · split
      · simp
      · rw [List.mem_cons, insT_mem x r z, List.mem_cons]
        constructor
        · rintro (h | h | h) <;> simp [h]
        · rintro (h | h | h) <;> simp [h]
theorem insT_asc (x : Str) : ∀ {l : List Str}, Asc l → Asc (insT x l)
  | [], _ => by simp [insT, Asc]
  | y :: r, h => by
    obtain ⟨h1, h2⟩ := List.pairwise_cons.mp h
    unfold insT
    split
    · exact h
    · rename_i ne
      split
      · rename_i lt
        refine List.pairwise_cons.mpr ⟨fun z hz => ?_, h⟩
        rcases List.mem_cons.mp hz with rfl | hz
        · exact lt
        · exact ltT_trans lt (h1 z hz)
      · rename_i nlt
        refine List.pairwise_cons.mpr ⟨fun z hz => ?_, insT_asc x h2⟩
        rcases (insT_mem x r z).mp hz with rfl | hz
        · exact ltT_of nlt fun e => ne e.symm
        · exact h1 z hz
def ascOf (l : List Str) : List Str := l.foldr insT []
theorem ascOf_asc : ∀ l : List Str, Asc (ascOf l)
  | [] => .nil
  | x :: l => insT_asc x (ascOf_asc l)
theorem ascOf_mem : ∀ (l : List Str) (z : Str), z ∈ ascOf l ↔ z ∈ l
  | [], z => by simp [ascOf]
  | x :: l, z => by
    show z ∈ insT x (ascOf l) ↔ _
    rw [insT_mem, ascOf_mem l, List.mem_cons]
/-- the names that are set in a block and are no globals -/
def setIn (gl : List Str) (b : List Stm) : List Str := (allL b).filterMap fun s => (tgt s).bind fun x => if x ∈ gl then none else some x
theorem setIn_mem {gl : List Str} {b : List Stm} {x : Str} : x ∈ setIn gl b ↔ (∃ s ∈ allL b, tgt s = some x) ∧ x ∉ gl := by
  unfold setIn
  rw [List.mem_filterMap]
  constructor
  · rintro ⟨s, hs, e⟩
    obtain ⟨y, hy, e2⟩ := Option.bind_eq_some_iff.mp e
    split at e2
    · cases e2
    · rename_i hn
      cases e2
      exact ⟨⟨s, hs, hy⟩, hn⟩
  · rintro ⟨⟨s, hs, e⟩, hn⟩
    exact ⟨s, hs, by rw [e]; simp [hn]⟩
/-- the locals of a procedure, ascending -/
def locs (gl ps : List Str) (b : List Stm) : List Str := ascOf (setIn gl b ++ ps)
theorem locs_eq {gl ps l : List Str} {b : List Stm} (h : Asc l) (m : ∀ x, x ∈ l ↔ x ∈ setIn gl b ∨ x ∈ ps) : l = locs gl ps b :=
  asc_uniq h (ascOf_asc _) fun x => by rw [m x]; unfold locs; rw [ascOf_mem, List.mem_append]
theorem nodup_le {α : Type} [DecidableEq α] : ∀ (l D : List α), l.Nodup → (∀ x ∈ l, x ∈ D) → l.length ≤ D.length
  | [], _, _, _ => Nat.zero_le _
  | x :: l, D, h, hs => by
    obtain ⟨h1, h2⟩ := List.nodup_cons.mp h
    have hx := hs x List.mem_cons_self
    have ih := nodup_le l (D.erase x) h2 fun y hy => (List.mem_erase_of_ne (fun (e : y = x) => h1 (by rw [← e]; exact hy))).mpr (hs y (List.mem_cons_of_mem _ hy))
    rw [List.length_erase_of_mem hx] at ih
    have : 0 < D.length := List.length_pos_of_mem hx
    rw [List.length_cons]
    omega
/-- the distinct items of a list -/
def dstS (l : List Str) : List Str := l.foldl (fun xs x => if x ∈ xs then xs else x :: xs) []
theorem dstS_snoc (l : List Str) (x : Str) : dstS (l ++ [x]) = if x ∈ dstS l then dstS l else x :: dstS l := by
  unfold dstS
  rw [List.foldl_append]
  rfl
theorem dstS_spec (l : List Str) : (dstS l).Nodup ∧ ∀ z, z ∈ dstS l ↔ z ∈ l := by
  rw [← List.reverse_reverse l]
  induction l.reverse with
  | nil => exact ⟨List.nodup_nil, by simp [dstS]⟩
  | cons x l0 ih =>
    rw [List.reverse_cons]
    generalize l0.reverse = l at ih ⊢
    obtain ⟨i1, i2⟩ := ih
    rw [dstS_snoc]
    split
    · rename_i h
      refine ⟨i1, fun z => ?_⟩
      rw [i2, List.mem_append, List.mem_singleton]
      exact ⟨.inl, fun q => q.elim id fun e => e ▸ (i2 x).mp h⟩
    · rename_i h
      refine ⟨List.nodup_cons.mpr ⟨h, i1⟩, fun z => ?_⟩
      rw [List.mem_cons, i2, List.mem_append, List.mem_singleton]
      exact Or.comm
section
variable {α : Type} {K : PySem.W.Frag} {a : Addr} {vs : List V} {g : TG} {tt : TT} {te : TE} {ws : List Nat} {σ : L2.St} {H : Hp} {D : Addr} {Qd : Hp → Prop} {m : Option Addr}
/-- [e for x in a list of data if t]: t answers fb -/
theorem lc_dlf (enc out : α → PyData) (fb : α → Bool) (xs : List α) (hA : SqL K H a vs) (am : some a ≠ m) (r : RpA K H vs (xs.map enc)) (hn : H D = none) (hD : some D ≠ m ∨ m = none) (hz : xs.length < sizeLine)
    (hs : ∀ x y H', x ∈ xs → Kp m H H' → Rp K H' y (enc x) → ∀ (R : VK) (N : Hp → Prop), (∀ z H4, fb x = true → Kp m H' H4 → Rp K H4 z (out x) → R z H4) → (∀ H4, fb x = false → Kp m H' H4 → N H4) →
      g y (wipe σ ws) H' fun σ2 H2 => wipe σ2 ws = wipe σ ws ∧ tt σ2 H2 fun b H3 => if b = true then te σ2 H3 R else N H3)
    (hd : ∀ H', Kp m H H' → Ls K H' D ((xs.filter fb).map out) → Qd H') :
    ∃ W : Nat → Nat → Hp → Prop, (∃ k, W 0 k (upd H D (.lst []))) ∧ ∀ i k H, W i k H →
      ((Itl K a).stop i H ∧ Qd H) ∨ ((Itl K a).go i H ∧ ∃ Nx : Hp → Prop, (∀ H', Nx H' → ∃ k', k' < k ∧ W (i + 1) k' H') ∧ ∀ x H', (Itl K a).yld i H x H' → g x (wipe σ ws) H' fun σ2 H2 => wipe σ2 ws = wipe σ ws ∧ tt σ2 H2 fun b H3 =>
        if b = true then te σ2 H3 fun y H4 => ∃ acc, H4 D = some (.lst acc) ∧ acc.length < sizeLine ∧ Nx (upd H4 D (.lst (acc ++ [y]))) else Nx H3) := by
  have hl : vs.length = xs.length := by rw [r.len, List.length_map]
  have dm : some D ≠ m := by
    rcases hD with h | h
    · exact h
    · rw [h]; simp
  refine lc_list (K := K) (a := a) (xs := vs) (fun i H' => Kp m H H' ∧ Ls K H' D (((xs.take i).filter fb).map out)) ⟨(Kp.refl H).new hn, [], upd_same, by simpa using RpA.nil⟩ (fun i H' _ p => p.1.lst hA am) (fun i y H' hy p => ?_)
    fun H' p => hd H' p.1 (by have q := p.2; rw [hl, List.take_length] at q; exact q)
  obtain ⟨d, hd', rd⟩ := r.get hy
  obtain ⟨x, hx, rfl⟩ := map_get hd'
  obtain ⟨e1, e2⟩ := take_split hx
  obtain ⟨kp, acc, ha, ra⟩ := p
  have hm : x ∈ xs := by rw [e1]; simp
  have hi : i < xs.length := (List.getElem?_eq_some_iff.mp hx).1
  have hacc : acc.length < sizeLine := by
    have h1 := ra.len
    have h2 := List.length_filter_le fb (xs.take i)
    rw [List.length_map] at h1
    rw [List.length_take] at h2
    omega
  refine hs x y H' hm kp (rd.mono kp.tle) (fun z H4 => ∃ acc, H4 D = some (.lst acc) ∧ acc.length < sizeLine ∧ Kp m H (upd H4 D (.lst (acc ++ [z]))) ∧ Ls K (upd H4 D (.lst (acc ++ [z]))) D (((xs.take (i + 1)).filter fb).map out))
    (fun H4 => Kp m H H4 ∧ Ls K H4 D (((xs.take (i + 1)).filter fb).map out)) (fun z H4 hb k4 r4 => ?_) fun H4 hb k4 => ?_
  · have ha4 := k4.of ha dm
    refine ⟨acc, ha4, hacc, (kp.trans k4).put hn, ?_⟩
    rw [e2, List.filter_append]
    simp only [List.filter_cons, hb, if_true, List.filter_nil, List.map_append, List.map_cons, List.map_nil]
    exact Ls.push ha4 (ra.mono k4.tle) r4
  · refine ⟨kp.trans k4, acc, k4.of ha dm, ?_⟩
    rw [e2, List.filter_append]
    simp only [List.filter_cons, hb, List.filter_nil, Bool.false_eq_true, if_false, List.append_nil]
    exact ra.mono k4.tle
end
end Cl

/-! Carryclaim: locals_of, local_names, variables; places. -/
namespace Cl
open PySem PySem.Spec PyProof.Rows L2

def NM : List Str := ["g", "h", "total", "result", "b2", "a", "b", "x", "y", "n1"]
def PN : List Str := ["main", "step", "twice", "walk"]
theorem NM_len : NM.length = 10 := by decide +kernel
/-- what a payload may be: small, without dicts and lists, to be shown -/
structure Pay (d : PyData) : Prop where
  sh : d.showable = true
  nd : d.hasDict = false
  dep : d.depth ≤ 12
  len : d.shown.length ≤ 1500
def PayS : Stm → Prop
  | .set x e => x ∈ NM ∧ Pay e
  | .ask x => x ∈ NM
  | .tell e => Pay e
  | .check e => Pay e
  | .need e => Pay e
  | .ret e => Pay e
  | .ite c _ _ => Pay c
  | .loop c _ => Pay c
  | .call f vs t => f ∈ PN ∧ Pay (.tuple vs) ∧ ∀ x, t = some x → x ∈ NM
theorem PayS.tgt : ∀ {s : Stm} (h : PayS s) {x : Str} (e : tgt s = some x), x ∈ NM
  | .set _ _, h, _, e => by cases e; exact h.1
  | .ask _, h, _, e => by cases e; exact h
  | .call _ _ _, h, _, e => h.2.2 _ e
  | .tell _, _, _, e => by cases e
  | .check _, _, _, e => by cases e
  | .need _, _, _, e => by cases e
  | .ret _, _, _, e => by cases e
  | .ite _ _ _, _, _, e => by cases e
  | .loop _ _, _, _, e => by cases e
structure WfPr (gl : List Str) (p : Pr) : Prop where
  name : p.name ∈ PN
  ps : ∀ x ∈ p.ps, x ∈ NM
  psnd : p.ps.Nodup
  psgl : ∀ x ∈ p.ps, x ∉ gl
  dep : depL p.body ≤ 3
  cnt : (allL p.body).length ≤ 900
  pay : ∀ s ∈ allL p.body, PayS s
structure WfPg (g : Pg) : Prop where
  gl : ∀ x ∈ g.gl, x ∈ NM
  glnd : g.gl.Nodup
  nd : (g.prs.map (·.name)).Nodup
  pr : ∀ p ∈ g.prs, WfPr g.gl p
  main : ∃ p, findPr g "main" = some p ∧ p.ps = []
theorem WfPg.glen {g : Pg} (w : WfPg g) : g.gl.length ≤ 10 := by
  have := nodup_le g.gl NM w.glnd w.gl
  rw [NM_len] at this
  exact this
theorem WfPr.plen {gl : List Str} {p : Pr} (w : WfPr gl p) : p.ps.length ≤ 10 := by
  have := nodup_le p.ps NM w.psnd w.ps
  rw [NM_len] at this
  exact this
theorem WfPg.len {g : Pg} (w : WfPg g) : g.prs.length ≤ 4 := by
  have := nodup_le (g.prs.map (·.name)) PN w.nd fun x hx => by
    obtain ⟨p, hp, rfl⟩ := List.mem_map.mp hx
    exact (w.pr p hp).name
  rw [List.length_map, show PN.length = 4 by decide +kernel] at this
  exact this
theorem find_of {l : List Pr} {p : Pr} (nd : (l.map (·.name)).Nodup) (h : p ∈ l) : l.find? (fun q => decide (q.name = p.name)) = some p := by
  induction l with
  | nil => simp at h
  | cons x r ih =>
    rw [List.map_cons, List.nodup_cons] at nd
    rw [List.find?_cons]
    rcases List.mem_cons.mp h with rfl | h
    · simp
    · have ne : ¬ x.name = p.name := fun e => nd.1 (e ▸ List.mem_map.mpr ⟨p, h, rfl⟩)
      simp only [ne, decide_false]
      exact ih nd.2 h
theorem WfPg.find {g : Pg} (w : WfPg g) {p : Pr} (h : p ∈ g.prs) : findPr g p.name = some p := find_of w.nd h
theorem findPr_mem {g : Pg} {nm : Str} {p : Pr} (h : findPr g nm = some p) : p ∈ g.prs ∧ p.name = nm := by
  unfold findPr at h
  exact ⟨List.mem_of_find?_eq_some h, by have := List.find?_some h; simpa using this⟩
theorem locs_nm {gl ps : List Str} {b : List Stm} (h1 : ∀ x ∈ ps, x ∈ NM) (h2 : ∀ s ∈ allL b, PayS s) {x : Str} (h : x ∈ locs gl ps b) : x ∈ NM := by
  unfold locs at h
  rw [ascOf_mem, List.mem_append, setIn_mem] at h
  rcases h with ⟨⟨s, hs, e⟩, _⟩ | h
  · exact (h2 s hs).tgt e
  · exact h1 x h
theorem asc_nodup {l : List Str} (h : Asc l) : l.Nodup := List.Pairwise.imp (S := (· ≠ ·)) (fun {a b} q e => by subst e; exact ltT_irr _ q) h
theorem locs_len {gl ps : List Str} {b : List Stm} (h1 : ∀ x ∈ ps, x ∈ NM) (h2 : ∀ s ∈ allL b, PayS s) : (locs gl ps b).length ≤ 10 := by
  have := nodup_le (locs gl ps b) NM (asc_nodup (ascOf_asc _)) fun x hx => locs_nm h1 h2 hx
  rw [NM_len] at this
  exact this

theorem inV_strs (x : Str) : ∀ xs : List Str, inV (.str x) (xs.map V.str) = decide (x ∈ xs)
  | [] => by simp [inV]
  | y :: xs => by
    have ih := inV_strs x xs
    unfold inV at ih ⊢
    rw [List.map_cons, List.any_cons, ih]
    rw [Bool.eq_iff_iff, Bool.or_eq_true, decide_eq_true_eq, decide_eq_true_eq, List.mem_cons]
    constructor
    · rintro (q | q)
      · refine .inl ?_
        simp only [eqV] at q
        first | exact beq_iff_eq.mp q | exact (beq_iff_eq.mp q).symm
      · exact .inr q
    · rintro (q | q)
      · refine .inl ?_
        subst q
        simp only [eqV]
        exact beq_self_eq_true x
      · exact .inr q
theorem flat_strs' (ys : List Str) : (ys.map V.str).all flatV = true := by
  simp [List.all_eq_true, flatV]

section
variable {K : PySem.W.Frag} {w : World} {a D : Addr} {xs B : List Str} {g : TG} {te : TE} {ws : List Nat} {σ : L2.St} {H : Hp} {Qd : Hp → Prop}
/-- {e for x in a list of texts}, e gives x -/
theorem ck_set (hA : SqL K H a (xs.map V.str)) (hn : H D = none) (hb : ∀ x ∈ xs, x ∈ B) (hB : B.length ≤ 1000)
    (hs : ∀ x H' R, x ∈ xs → R (V.str x) H' → g (.str x) (wipe σ ws) H' fun σ2 H2 => wipe σ2 ws = wipe σ ws ∧ te σ2 H2 R)
    (hd : ∀ H', Kp none H H' → H' D = some (TxO w D (dstS xs)) → Qd H') :
    ∃ W : Nat → Nat → Hp → Prop, (∃ m, W 0 m (upd H D (TxO w D []))) ∧ ∀ i m H, W i m H →
      ((Itl K a).stop i H ∧ Qd H) ∨ ((Itl K a).go i H ∧ ∃ Nx : Hp → Prop, (∀ H', Nx H' → ∃ m', m' < m ∧ W (i + 1) m' H') ∧ ∀ x H', (Itl K a).yld i H x H' → g x (wipe σ ws) H' fun σ2 H2 => wipe σ2 ws = wipe σ ws ∧ tYes σ2 H2 fun b H3 =>
        if b = true then tbS w te D σ2 H3 Nx else Nx H3) := by
  refine ⟨fun i m H' => m = xs.length - i ∧ i ≤ xs.length ∧ Kp none H H' ∧ H' D = some (TxO w D (dstS (xs.take i))), ⟨xs.length, by simp, Nat.zero_le _, (Kp.refl H).new hn, upd_same⟩, ?_⟩
  rintro i m H' ⟨rfl, hi, k, hD⟩
  have q : SqL K H' a (xs.map V.str) := k.lst hA
  by_cases hlt : i < xs.length
  · have hx : xs[i]? = some xs[i] := List.getElem?_eq_getElem hlt
    refine .inr ⟨⟨xs.map V.str, .str xs[i], q, by rw [List.getElem?_map, hx]; rfl⟩, fun H2 => Kp none H H2 ∧ H2 D = some (TxO w D (dstS (xs.take (i + 1)))), fun H2 p => ⟨xs.length - (i + 1), by omega, rfl, hlt, p⟩, fun x H2 y => ?_⟩
    obtain ⟨rfl, y⟩ := y
    have ex : x = .str xs[i] := by
      have z := y _ q
      rw [List.getElem?_map, hx] at z
      exact (Option.some.inj z).symm
    subst ex
    obtain ⟨e1, e2⟩ := take_split hx
    refine hs _ _ _ (List.getElem_mem hlt) ⟨xs[i], dstS (xs.take i), rfl, hD, ?_, k.put hn, ?_⟩
    · obtain ⟨s1, s2⟩ := dstS_spec (xs.take i)
      have := nodup_le (dstS (xs.take i)) B s1 fun z hz => hb z (List.mem_of_mem_take ((s2 z).mp hz))
      have e : scanBound = 4096 := rfl
      omega
    · rw [upd_same, e2, dstS_snoc]
  · have e : i = xs.length := by omega
    subst e
    rw [List.take_length] at hD
    exact .inl ⟨⟨xs.map V.str, q, by rw [List.length_map]; exact Nat.le_refl _⟩, hd H' k hD⟩
end

def spLocsOf (K : PySem.W.Frag) : Sp := fun vs H Q _ => ∃ (u v x : V) (gl ps : List Str) (b : List Stm), vs = [u, v, x] ∧ Rp K H u (.tuple (gl.map .str)) ∧ Rp K H v (.tuple (ps.map .str)) ∧ Rp K H x (encB b) ∧ depL b ≤ 3 ∧ (allL b).length ≤ 900 ∧
  (∀ s ∈ allL b, PayS s) ∧ (∀ x ∈ ps, x ∈ NM) ∧ ps.length ≤ 10 ∧ ∀ y H', Kp none H H' → Rp K H' y (.tuple ((locs gl ps b).map .str)) → Q y H'
def spLocNames (K : PySem.W.Frag) : Sp := fun vs H Q _ => ∃ (v : V) (nm : Str) (g : Pg) (p : Pr), vs = [v, .str nm] ∧ Rp K H v (encPg g) ∧ WfPg g ∧ findPr g nm = some p ∧ ∀ y H', Kp none H H' → Rp K H' y (.tuple ((locs g.gl p.ps p.body).map .str)) → Q y H'
def spVars (K : PySem.W.Frag) : Sp := fun vs H Q _ => ∃ (v : V) (nm : Str) (g : Pg) (p : Pr), vs = [v, .str nm] ∧ Rp K H v (encPg g) ∧ WfPg g ∧ findPr g nm = some p ∧ ∀ y H', Kp none H H' → Rp K H' y (.tuple ((g.gl ++ locs g.gl p.ps p.body).map .str)) → Q y H'
def spPlaces (K : PySem.W.Frag) : Sp := fun vs H Q _ => ∃ (v : V) (nm : Str) (g : Pg) (p : Pr), vs = [v, .str nm] ∧ Rp K H v (encPg g) ∧ findPr g nm = some p ∧ depL p.body ≤ 3 ∧ (allL p.body).length ≤ 900 ∧ ∀ y H', Kp none H H' → Rp K H' y (.tuple ((placesL p.body).map .str)) → Q y H'
section
variable {P : Program} {w : World} {K : PySem.W.Frag} {mg : Str → Option Value} {base : Heap}
abbrev s_locals_of : Stmt := top 10
abbrev N_locals_of : List Str := ["global_names", "names", "block", "targets", "known", "statement", "target", "name"]
theorem sc_locals_of : FnScope N_locals_of ["global_names", "names", "block"] (defScope s_locals_of) := ⟨rfl, rfl, rfl, by decide +kernel, rfl, by decide +kernel, by decide +kernel⟩
def notGl (gl : List Str) : Option Str → Bool
  | none => false
  | some x => !decide (x ∈ gl)
theorem notGl_list (gl : List Str) : ∀ l : List (Option Str), (l.filter (notGl gl)).map optD = (l.filterMap fun o => o.bind fun x => if x ∈ gl then none else some x).map .str
  | [] => rfl
  | none :: l => by
    rw [List.filter_cons, List.filterMap_cons]
    exact notGl_list gl l
  | some x :: l => by
    rw [List.filter_cons, List.filterMap_cons]
    by_cases h : x ∈ gl
    · simp only [notGl, h, decide_true, Bool.not_true, Bool.false_eq_true, if_false, Option.bind_some, if_true]
      exact notGl_list gl l
    · simp only [notGl, h, decide_false, Bool.not_false, if_true, Option.bind_some, if_false, List.map_cons, optD]
      rw [notGl_list gl l]
theorem ok_locals_of (T : Bl mg) (D : Df K mg "locals_of" s_locals_of ["global_names", "names", "block"]) (G_all_statements : Kn P w K mg base 5 "all_statements" ["block"] (spAll K 3)) (G_target_of : Kn P w K mg base 1 "target_of" ["statement"] (spTgt K)) :
    Kn P w K mg base 6 "locals_of" ["global_names", "names", "block"] (spLocsOf K) := by
  refine D.ok sc_locals_of (fun vs H Q E h => ?_) (fun f cdv A outer s H vs Q E hr h => ?_)
  · obtain ⟨u, v, x, gl, ps, b, rfl, _⟩ := h
    rfl
  obtain ⟨u, v, x, gl, ps, b, rfl, hu, hv, hx, hdep, hlen, hpay, hps, hpl, q⟩ := h
  refine ⟨_, (pss_cons (ps_setLc (i := 3) (own := [("statement", 5)]) (g := gName 5) (tt := tYes) rfl sc_locals_of.nd rfl rfl (sw_true rfl rfl rfl (by decide +kernel)) (pi_list (pe_kn G_all_statements hr (pa_cons (pv 2) pa_nil))) (blkOk_by (own := [("statement", 5)]) (N := N_locals_of) (sc := defScope s_locals_of) (by decide +kernel)) (fun _ _ _ _ _ => (pg_name (i := 5) sc_locals_of.nd rfl (by first | exact Or.inl rfl | exact Or.inr rfl))) (fun _ _ _ _ _ => pts_nil) (fun _ _ _ _ _ => (pe_kn G_target_of hr (pa_cons (pv 5) pa_nil))))
    (pss_cons (ps_setLc (i := 4) (own := [("target", 6)]) (g := gName 6) rfl sc_locals_of.nd rfl rfl (sw_true rfl rfl rfl (by decide +kernel)) (pi_list (pv 3)) (blkOk_by (own := [("target", 6)]) (N := N_locals_of) (sc := defScope s_locals_of) (by decide +kernel)) (fun _ _ _ _ _ => (pg_name (i := 6) sc_locals_of.nd rfl (by first | exact Or.inl rfl | exact Or.inr rfl))) (fun _ _ _ _ _ => pts_one (PW.pt (pw_and (pt_cmpR op_notN (pv 6) pe_non (nomark _)) (pw_and1 (pt_cmpR (r := rIn K true) op_notIn_seq (pv 6) (pv 0) rfl))))) (fun _ _ _ _ _ => (pv 6)))
    (pss_one (ps_ret (pe_callTy call_tuple_of (by rfl) T.tuple (by decide +kernel) (pa_cons (pe_callB (cr_sortedX rfl) (by rfl) T.sorted (by decide +kernel) (pa_cons (pe_scS (own := [("name", 7)]) (g := gName 7) (tt := tYes) rfl sc_locals_of.nd (pi_list (pe_op op_cat (pv 4) (pe_callTy call_list_of (by rfl) T.list (by decide +kernel) (pa_cons (pv 1) pa_nil)))) (blkOk_by (own := [("name", 7)]) (N := N_locals_of) (sc := defScope s_locals_of) (by decide +kernel)) (fun _ _ _ _ _ => (pg_name (i := 7) sc_locals_of.nd rfl (by first | exact Or.inl rfl | exact Or.inr rfl))) (fun _ _ _ _ _ => pts_nil) (fun _ _ _ _ _ => (pv 7))) pa_nil)) pa_nil)))))), ?_⟩
  obtain ⟨ag, ws, rfl, hga, rg⟩ := hu.tup_inv
  rw [rg.strs_eq] at hga
  obtain ⟨ap, ws2, rfl, hpa, rp⟩ := hv.tup_inv
  rw [rp.strs_eq] at hpa
  refine ⟨_, rfl, x, b, rfl, hx, hdep, by omega, fun pa H1 k1 n1 ls1 => ?_⟩
  obtain ⟨us1, hu1, ru1⟩ := ls1
  refine ⟨pa, rfl, ⟨_, .inl (.inl hu1)⟩, fun D1 hD1 => lc_dl (m := none) encS (fun s => optD (tgt s)) (allL b) (.inl (.inl hu1)) (by simp) ru1 hD1 (.inr rfl) (small_lt (by omega)) ?_ ?_⟩
  · intro y z H' hy k rz R hR
    exact ⟨rfl, _, rfl, z, y, rfl, rz, fun u2 H4 k4 r4 => hR _ _ k4 r4⟩
  intro H2 k2 ls2
  obtain ⟨us2, hu2, ru2⟩ := ls2
  have k12 := k1.trans k2
  have e2 : (allL b).map (fun s => optD (tgt s)) = ((allL b).map tgt).map optD := by rw [List.map_map]; rfl
  rw [e2] at ru2
  refine ⟨_, rfl, D1, rfl, ⟨_, .inl (.inl hu2)⟩, fun D2 hD2 => lc_dlf (m := none) optD optD (notGl gl) ((allL b).map tgt) (.inl (.inl hu2)) (by simp) ru2 hD2 (.inr rfl) (small_lt (by rw [List.length_map]; omega)) ?_ ?_⟩
  · intro y z H' hy k rz R N hR hN
    refine ⟨rfl, _, rfl, rfl, _, rfl, ?_⟩
    cases y with
    | none =>
      rw [rz.non_inv]
      exact hN _ rfl (Kp.refl _)
    | some t =>
      rw [rz.str_inv]
      refine ⟨_, rfl, _, rfl, ag, _, rfl, .inr ((k12.trans k).tle.seqT hga), rfl, flat_strs' gl, _, rfl, ?_⟩
      rw [inV_strs]
      by_cases hm : t ∈ gl
      · simp only [hm, decide_true, if_true, Bool.not_true, Bool.false_eq_true, if_false]
        exact hN _ (by simp [notGl, hm]) (Kp.refl _)
      · simp only [hm, decide_false, if_true, Bool.not_false]
        exact ⟨_, rfl, hR _ _ (by simp [notGl, hm]) (Kp.refl _) (.str _)⟩
  intro H3 k3 ls3
  rw [notGl_list] at ls3
  obtain ⟨us3, hu3, ru3⟩ := ls3
  have e3 : ((allL b).map tgt).filterMap (fun o => o.bind fun x => if x ∈ gl then none else some x) = setIn gl b := by
    unfold setIn; rw [List.filterMap_map]; rfl
  rw [e3] at ru3
  rw [ru3.strs_eq] at hu3
  have k13 := k12.trans k3
  have hsl : (setIn gl b).length ≤ 900 := Nat.le_trans (List.length_filterMap_le _ _) hlen
  refine ⟨_, rfl, _, rfl, ap, _, rfl, .inr (k13.tle.seqT hpa), fun l hl => ?_⟩
  have k4 : Kp none H3 (upd H3 l (.lst (ps.map V.str))) := (Kp.refl _).new hl
  refine ⟨D2, l, _, _, rfl, rfl, k4.of hu3, upd_same, small_le (by simp; omega), fun c hc => ?_⟩
  have k5 := k4.new (o := .lst ((setIn gl b).map V.str ++ ps.map V.str)) hc
  refine ⟨c, rfl, ⟨_, .inl (.inl upd_same)⟩, fun D3 hD3 => ck_set (xs := setIn gl b ++ ps) (B := NM) (by rw [List.map_append]; exact .inl (.inl upd_same)) hD3 (fun z hz => ?_) (by rw [NM_len]; decide) (fun z H' R hz hR => ⟨rfl, _, rfl, hR⟩) fun H6 k6 h6 => ?_⟩
  · rcases List.mem_append.mp hz with hz | hz
    · obtain ⟨⟨s, hs, e⟩, _⟩ := setIn_mem.mp hz
      exact (hpay s hs).tgt e
    · exact hps z hz
  obtain ⟨d1, d2⟩ := dstS_spec (setIn gl b ++ ps)
  have dl : (dstS (setIn gl b ++ ps)).length ≤ NM.length := nodup_le _ _ d1 fun z hz => by
    rcases List.mem_append.mp ((d2 z).mp hz) with hz | hz
    · obtain ⟨⟨s, hs, e⟩, _⟩ := setIn_mem.mp hz
      exact (hpay s hs).tgt e
    · exact hps z hz
  rw [NM_len] at dl
  refine ⟨D3, _, rfl, h6, by omega, fun ys p pm so nd hp => ?_⟩
  have ey : ys = locs gl ps b := locs_eq (asc_of (sortedS_pw so) (pm.nodup_iff.mpr nd)) fun z => by rw [pm.mem_iff, d2, List.mem_append]
  subst ey
  refine ⟨p, _, rfl, .inl ⟨.inl (.inl upd_same), fun o ho => ?_⟩⟩
  have k7 := ((k13.trans k5).trans k6).new (o := .lst ((locs gl ps b).map V.str)) hp
  exact q _ _ (k7.new ho) (Rp.mk ho (RpA.strs _))

abbrev s_local_names : Stmt := top 9
abbrev N_local_names : List Str := ["program", "name", "found", "names", "block"]
theorem sc_local_names : FnScope N_local_names ["program", "name"] (defScope s_local_names) := ⟨rfl, rfl, rfl, by decide +kernel, rfl, by decide +kernel, by decide +kernel⟩
theorem ok_local_names (D : Df K mg "local_names" s_local_names ["program", "name"]) (G_procedure_of : Kn P w K mg base 1 "procedure_of" ["program", "name"] (spProcOf K)) (G_locals_of : Kn P w K mg base 6 "locals_of" ["global_names", "names", "block"] (spLocsOf K)) :
    Kn P w K mg base 7 "local_names" ["program", "name"] (spLocNames K) := by
  refine D.ok sc_local_names (fun vs H Q E h => ?_) (fun f cdv A outer s H vs Q E hr h => ?_)
  · obtain ⟨v, nm, g, p, rfl, _⟩ := h
    rfl
  obtain ⟨v, nm, g, p, rfl, hv, wf, hf, q⟩ := h
  refine ⟨_, (pss_cons (ps_asg (pe_kn G_procedure_of hr (pa_cons (pv 0) (pa_cons (pv 1) pa_nil))) (pg_tup rfl (pgs_cons (pg_name (i := 2) sc_local_names.nd rfl (by first | exact Or.inl rfl | exact Or.inr rfl)) (pgs_cons (pg_name (i := 3) sc_local_names.nd rfl (by first | exact Or.inl rfl | exact Or.inr rfl)) (pgs_cons (pg_name (i := 4) sc_local_names.nd rfl (by first | exact Or.inl rfl | exact Or.inr rfl)) pgs_nil)))))
    (pss_one (ps_ret (pe_kn G_locals_of hr (pa_cons (pe_ix ix_tup (pv 0) pe_int (fun _ _ => rfl)) (pa_cons (pv 3) (pa_cons (pv 4) pa_nil))))))), ?_⟩
  obtain ⟨hm, _⟩ := findPr_mem hf
  have wp := wf.pr p hm
  refine ⟨_, rfl, _, rfl, v, nm, g, p, rfl, hv, hf, fun u H1 k1 r1 => ?_⟩
  obtain ⟨a, v1, v2, v3, rfl, hs, s1, s2, s3⟩ := r1.t3
  refine ⟨a, _, rfl, hs, rfl, _, _, rfl, _, _, rfl, _, _, rfl, rfl, ?_⟩
  obtain ⟨ag, g1, g2, rfl, hg, q1, q2⟩ := (hv.mono k1.tle).t2
  exact ⟨_, rfl, _, _, _, _, rfl, rfl, hg, rfl, _, rfl, _, rfl, g1, v2, v3, g.gl, p.ps, p.body, rfl, q1, s2, s3, wp.dep, wp.cnt, wp.pay, wp.ps, wp.plen, fun y H' k r => q _ _ (k1.trans k) r⟩

abbrev s_variables : Stmt := top 11
abbrev N_variables : List Str := ["program", "name"]
theorem sc_variables : FnScope N_variables ["program", "name"] (defScope s_variables) := ⟨rfl, rfl, rfl, by decide +kernel, rfl, by decide +kernel, by decide +kernel⟩
theorem ok_variables (D : Df K mg "variables" s_variables ["program", "name"]) (G_local_names : Kn P w K mg base 7 "local_names" ["program", "name"] (spLocNames K)) : Kn P w K mg base 8 "variables" ["program", "name"] (spVars K) := by
  refine D.ok sc_variables (fun vs H Q E h => ?_) (fun f cdv A outer s H vs Q E hr h => ?_)
  · obtain ⟨v, nm, g, p, rfl, _⟩ := h
    rfl
  obtain ⟨v, nm, g, p, rfl, hv, wf, hf, q⟩ := h
  refine ⟨_, (pss_one (ps_ret (pe_op op_catA (pe_ix ix_tup (pv 0) pe_int (fun _ _ => rfl)) (pe_kn G_local_names hr (pa_cons (pv 0) (pa_cons (pv 1) pa_nil)))))), ?_⟩
  have hv0 := hv
  obtain ⟨ag, g1, g2, rfl, hg, q1, q2⟩ := hv.t2
  obtain ⟨hm, _⟩ := findPr_mem hf
  have wp := wf.pr p hm
  refine ⟨_, rfl, _, _, _, _, rfl, rfl, hg, rfl, _, rfl, _, rfl, _, nm, g, p, rfl, hv0, wf, hf, fun u H1 k1 r1 => ?_⟩
  refine cat_ok (q1.mono k1.tle) r1 ?_ fun y H' k r => ?_
  · have h1 := wf.glen
    have h2 := locs_len (gl := g.gl) wp.ps wp.pay
    simp only [List.length_map]
    omega
  · rw [← List.map_append] at r
    exact q _ _ (k1.trans k) r

abbrev s_places : Stmt := top 15
abbrev N_places : List Str := ["program", "name", "paths", "path"]
theorem sc_places : FnScope N_places ["program", "name"] (defScope s_places) := ⟨rfl, rfl, rfl, by decide +kernel, rfl, by decide +kernel, by decide +kernel⟩
theorem ok_places (T : Bl mg) (D : Df K mg "places" s_places ["program", "name"]) (G_procedure_of : Kn P w K mg base 1 "procedure_of" ["program", "name"] (spProcOf K)) (G_block_paths : Kn P w K mg base 5 "block_paths" ["block", "start"] (spPaths K 3))
    (G_path_text : Kn P w K mg base 1 "path_text" ["path"] (spPathText K)) : Kn P w K mg base 6 "places" ["program", "name"] (spPlaces K) := by
  refine D.ok sc_places (fun vs H Q E h => ?_) (fun f cdv A outer s H vs Q E hr h => ?_)
  · obtain ⟨v, nm, g, p, rfl, _⟩ := h
    rfl
  obtain ⟨v, nm, g, p, rfl, hv, hf, hdep, hlen, q⟩ := h
  refine ⟨_, (pss_cons (ps_set (i := 2) sc_places.nd rfl (by first | exact Or.inl rfl | exact Or.inr rfl) (pe_kn G_block_paths hr (pa_cons (pe_ix ix_tup (pe_kn G_procedure_of hr (pa_cons (pv 0) (pa_cons (pv 1) pa_nil))) pe_int (fun _ _ => rfl)) (pa_cons (pe_tup pa_nil) pa_nil))))
    (pss_one (ps_ret (pe_op op_catA (pe_op op_catA (pe_tup (pa_cons pe_str pa_nil)) (pe_callTy call_tuple_of (by rfl) T.tuple (by decide +kernel) (pa_cons (pe_lc (own := [("path", 3)]) (g := gName 3) (tt := tYes) rfl sc_places.nd (pi_list (pv 2)) (blkOk_by (own := [("path", 3)]) (N := N_places) (sc := defScope s_places) (by decide +kernel)) (fun _ _ _ _ _ => (pg_name (i := 3) sc_places.nd rfl (by first | exact Or.inl rfl | exact Or.inr rfl))) (fun _ _ _ _ _ => pts_nil) (fun _ _ _ _ _ => (pe_kn G_path_text hr (pa_cons (pv 3) pa_nil)))) pa_nil))) (pe_tup (pa_cons pe_str pa_nil)))))), ?_⟩
  refine ⟨_, rfl, _, rfl, v, nm, g, p, rfl, hv, hf, fun u H1 k1 r1 => ?_⟩
  obtain ⟨a, v1, v2, v3, rfl, hs, s1, s2, s3⟩ := r1.t3
  refine ⟨_, _, _, _, rfl, rfl, hs, rfl, Nat.zero_le _, fun e he => ?_⟩
  have k2 : Kp none H1 (upd H1 e (.tup [])) := (Kp.refl _).new he
  refine ⟨v3, .ref e, p.body, [], rfl, s3.mono k2.tle, Rp.mk he .nil, hdep, by simp; omega, by omega, fun o H2 k3 n3 ls => ?_⟩
  obtain ⟨us, hu, ru⟩ := ls
  refine ⟨small_le (by simp), fun e2 he2 => ?_⟩
  have k4 : Kp none H2 (upd H2 e2 (.tup [.str "in"])) := (Kp.refl _).new he2
  have rin : Rp K (upd H2 e2 (.tup [.str "in"])) (.ref e2) (.tuple [.str "in"]) := Rp.mk he2 (.cons (.str _) .nil)
  refine ⟨_, rfl, o, rfl, ⟨_, .inl (.inl (k4.of hu))⟩, fun D1 hD1 => lc_dl (m := none) encPath (fun z => .str (pathText z)) (pathL [] 0 p.body) (.inl (.inl (k4.of hu))) (by simp) (ru.mono k4.tle) hD1 (.inr rfl) (small_lt (by rw [pathL_len]; omega)) ?_ ?_⟩
  · intro z y H' hz k ry R hR
    obtain ⟨z1, z2⟩ := pathL_ok (M := 900) (by decide) p.body [] 0 z (by simp) (by omega) hz
    refine ⟨rfl, _, rfl, y, z, rfl, ry, ?_, fun n hn => ?_, fun H4 k4 => hR _ _ k4 (.str _)⟩
    · simp at z1; omega
    · have := z2 n hn; omega
  · intro H3 k5 ls
    obtain ⟨us3, hu3, ru3⟩ := ls
    refine ⟨D1, us3, rfl, .inl ⟨.inl (.inl hu3), fun l hl => ?_⟩⟩
    have k6 : Kp none H3 (upd H3 l (.tup us3)) := (Kp.refl _).new hl
    have r6 := Rp.mk hl ru3
    have k46 := k5.trans k6
    refine cat_ok (rin.mono k46.tle) r6 (by simp [pathL_len]; omega) fun u3 H5 k7 r7 => ?_
    refine ⟨small_le (by simp), fun e3 he3 => ?_⟩
    have k8 : Kp none H5 (upd H5 e3 (.tup [.str "out"])) := (Kp.refl _).new he3
    refine cat_ok (r7.mono k8.tle) (Rp.mk he3 (.cons (.str _) .nil)) (by simp [pathL_len]; omega) fun u4 H6 k9 r9 => ?_
    refine q _ _ ((((((k1.trans k2).trans k3).trans k4).trans k46).trans k7).trans (k8.trans k9)) ?_
    have e9 : ([.str "in"] : List PyData) ++ (pathL [] 0 p.body).map (fun z => .str (pathText z)) ++ [.str "out"] = (placesL p.body).map .str := by
      unfold placesL
      simp [List.map_map, Function.comp_def]
    rw [e9] at r9
    exact r9
end
end Cl

/-! Carryclaim: papers as data, their texts. -/
namespace Cl
open PySem PySem.Spec PyProof.Rows L2

structure Rg where
  lo : Int
  hi : Int
  st : Int
def encRg (r : Rg) : PyData := .tuple [.int r.lo, .int r.hi, .int r.st]
abbrev Ent := Str × Rg
def encEn (e : Ent) : PyData := .tuple [.str e.1, encRg e.2]
abbrev Ste := Option (List Ent)
def encSt : Ste → PyData
  | none => .none
  | some l => .tuple (l.map encEn)
structure Row where
  nm : Str
  pl : Str
  st : Ste
def encRow (r : Row) : PyData := .tuple [.str r.nm, .str r.pl, encSt r.st]
abbrev encPap (rs : List Row) : PyData := .tuple (rs.map encRow)

/-! texts -/
def iTx (i : Int) : Str := Str.ofString (toString i)
def rgTx (r : Rg) : Str := if r.st = 0 then iTx r.lo else ((((Str.empty ++ iTx r.lo) ++ ("..":Str)) ++ iTx r.hi) ++ ("/":Str)) ++ iTx r.st
def enTx (e : Ent) : Str := (((Str.empty ++ (" ":Str)) ++ e.1) ++ ("=":Str)) ++ rgTx e.2
def stTx : Ste → Str
  | none => " never"
  | some l => Txt.join "" (l.map enTx)
def rwTx (r : Row) : Str := ((((Str.empty ++ r.nm) ++ (" ":Str)) ++ r.pl) ++ stTx r.st) ++ ("\n":Str)
def ppTx (rs : List Row) : Str := Txt.join "" (rs.map rwTx)

theorem ln_app (x y : Str) : (x ++ y).length = x.length + y.length := by
  rw [TL.len_tl, TL.tl_append, List.length_append, ← TL.len_tl, ← TL.len_tl]
theorem ln_empty : Str.empty.length = 0 := rfl
/-- the signs of an int -/
def iL (i : Int) : List Nat := if i < 0 then 45 :: TL.numL i.natAbs else TL.numL i.natAbs
theorem tl_iTx (i : Int) : TL.tl (iTx i) = iL i := by
  unfold iTx iL
  cases i with
  | ofNat n =>
    have h : ¬ ((Int.ofNat n) < 0) := by simp
    rw [if_neg h]
    exact TL.tl_num n
  | negSucc n =>
    have h : Int.negSucc n < 0 := Int.negSucc_lt_zero n
    rw [if_pos h]
    have e : toString (Int.negSucc n) = "-" ++ toString (((n + 1 : Nat) : Int)) := rfl
    rw [e, TL.tl_ofString, String.toList_append, List.map_append, ← TL.tl_ofString, ← TL.tl_ofString, TL.tl_num]
    rfl
theorem iL_len {i : Int} (h : i.natAbs < 100000) : (iL i).length ≤ 6 := by
  have := TL.numL_len (n := i.natAbs) (k := 5) (by decide) (by omega)
  unfold iL
  split
  · simp; omega
  · omega
theorem iTx_len {i : Int} (h : i.natAbs < 100000) : (iTx i).length ≤ 6 := by
  rw [TL.len_tl, tl_iTx]
  exact iL_len h
theorem log_int {i : Int} (h : i.natAbs < 100000) : i.natAbs.log2 < 1920 := log_small (Nat.lt_trans h (by decide +kernel))

structure RgOk (r : Rg) : Prop where
  lo1 : -10000 ≤ r.lo
  lo2 : r.lo ≤ 10000
  sh : (r.st = 0 ∧ r.hi = r.lo) ∨ (r.lo < r.hi ∧ r.hi ≤ 10000 ∧ 1 ≤ r.st ∧ (r.hi - r.lo) % r.st = 0)
theorem RgOk.st_le {r : Rg} (h : RgOk r) : 0 ≤ r.st ∧ r.st ≤ 20000 := by
  have h1 := h.lo1
  rcases h.sh with ⟨e, _⟩ | ⟨a, b, c, d⟩
  · omega
  · have := Int.le_of_dvd (by omega) (Int.dvd_of_emod_eq_zero d)
    omega
theorem RgOk.hi_b {r : Rg} (h : RgOk r) : -10000 ≤ r.hi ∧ r.hi ≤ 10000 := by
  have h1 := h.lo1
  have h2 := h.lo2
  rcases h.sh with ⟨_, e⟩ | ⟨a, b, c, d⟩ <;> omega
theorem RgOk.n1 {r : Rg} (h : RgOk r) : r.lo.natAbs < 100000 := by have := h.lo1; have := h.lo2; omega
theorem RgOk.n2 {r : Rg} (h : RgOk r) : r.hi.natAbs < 100000 := by have := h.hi_b; omega
theorem RgOk.n3 {r : Rg} (h : RgOk r) : r.st.natAbs < 100000 := by have := h.st_le; omega
theorem rgTx_len {r : Rg} (h : RgOk r) : (rgTx r).length ≤ 21 := by
  have a := iTx_len h.n1
  have b := iTx_len h.n2
  have c := iTx_len h.n3
  have d1 : ("..":Str).length = 2 := by decide +kernel
  have d2 : ("/":Str).length = 1 := by decide +kernel
  unfold rgTx
  split
  · omega
  · simp only [ln_app, ln_empty, d1, d2]
    omega
theorem NM_len6 : ∀ x ∈ NM, x.length ≤ 6 := by decide +kernel
theorem PN_len6 : ∀ x ∈ PN, x.length ≤ 6 := by decide +kernel
theorem enTx_len {e : Ent} (h1 : e.1 ∈ NM) (h : RgOk e.2) : (enTx e).length ≤ 30 := by
  have a := rgTx_len h
  have b := NM_len6 _ h1
  have d1 : (" ":Str).length = 1 := by decide +kernel
  have d2 : ("=":Str).length = 1 := by decide +kernel
  unfold enTx
  simp only [ln_app, ln_empty, d1, d2]
  omega
structure StOk (s : Ste) : Prop where
  len : ∀ l, s = some l → l.length ≤ 20
  ent : ∀ l, s = some l → ∀ e ∈ l, e.1 ∈ NM ∧ RgOk e.2
theorem joinL_nil : ∀ l : List (List Nat), TL.joinL [] l = l.flatten
  | [] => rfl
  | [x] => by simp [TL.joinL]
  | x :: y :: r => by
    have ih := joinL_nil (y :: r)
    simp only [TL.joinL, List.nil_append, ih, List.flatten_cons]
theorem tl_nil : TL.tl ("":Str) = [] := by decide +kernel
theorem tl_join0 (xs : List Str) : TL.tl (Txt.join "" xs) = (xs.map TL.tl).flatten := by
  rw [TL.join_eq, TL.tl_join, tl_nil, joinL_nil]
theorem join0_len (xs : List Str) : (Txt.join "" xs).length = (xs.map (·.length)).sum := by
  rw [TL.len_tl, tl_join0, List.length_flatten, List.map_map]
  congr 1
theorem stTx_len {s : Ste} (h : StOk s) : (stTx s).length ≤ 600 := by
  cases s with
  | none => exact Nat.le_trans (show (" never":Str).length ≤ 6 by decide +kernel) (by decide)
  | some l =>
    show (Txt.join "" (l.map enTx)).length ≤ 600
    rw [join0_len]
    have h3 : ((l.map enTx).map (·.length)).sum ≤ (l.map enTx).length * 30 := sum_le fun x hx => by
      obtain ⟨e, he, rfl⟩ := List.mem_map.mp hx
      obtain ⟨p, q⟩ := h.ent l rfl e he
      exact enTx_len p q
    have := h.len l rfl
    rw [List.length_map] at h3
    omega
structure RowOk (r : Row) : Prop where
  nm : r.nm ∈ PN
  pl : r.pl.length ≤ 60
  st : StOk r.st
theorem rwTx_len {r : Row} (h : RowOk r) : (rwTx r).length ≤ 700 := by
  have a := stTx_len h.st
  have b := PN_len6 _ h.nm
  have c := h.pl
  have d1 : (" ":Str).length = 1 := by decide +kernel
  have d2 : ("\n":Str).length = 1 := by decide +kernel
  unfold rwTx
  simp only [ln_app, ln_empty, d1, d2]
  omega
def spRgTx (K : PySem.W.Frag) : Sp := fun vs H Q _ => ∃ (v : V) (r : Rg), vs = [v] ∧ Rp K H v (encRg r) ∧ RgOk r ∧ ∀ H', Kp none H H' → Q (.str (rgTx r)) H'
def spStTx (K : PySem.W.Frag) : Sp := fun vs H Q _ => ∃ (v : V) (s : Ste), vs = [v] ∧ Rp K H v (encSt s) ∧ StOk s ∧ ∀ H', Kp none H H' → Q (.str (stTx s)) H'
def spWrite (K : PySem.W.Frag) : Sp := fun vs H Q _ => ∃ (v : V) (rs : List Row), vs = [v] ∧ Rp K H v (encPap rs) ∧ rs.length ≤ 8000 ∧ (∀ r ∈ rs, RowOk r) ∧ ∀ H', Kp none H H' → Q (.str (ppTx rs)) H'
section
variable {P : Program} {w : World} {K : PySem.W.Frag} {mg : Str → Option Value} {base : Heap}
abbrev s_range_text : Stmt := top 27
abbrev N_range_text : List Str := ["found", "low", "high", "step"]
theorem sc_range_text : FnScope N_range_text ["found"] (defScope s_range_text) := ⟨rfl, rfl, rfl, by decide +kernel, rfl, by decide +kernel, by decide +kernel⟩
theorem ok_range_text (T : Bl mg) (D : Df K mg "range_text" s_range_text ["found"]) : Kn P w K mg base 1 "range_text" ["found"] (spRgTx K) := by
  refine D.ok sc_range_text (fun vs H Q E h => ?_) (fun f cdv A outer s H vs Q E hr h => ?_)
  · obtain ⟨v, r, rfl, _⟩ := h
    rfl
  obtain ⟨v, r, rfl, hv, ok, q⟩ := h
  refine ⟨_, (pss_cons (ps_asg (pv 0) (pg_tup rfl (pgs_cons (pg_name (i := 1) sc_range_text.nd rfl (by first | exact Or.inl rfl | exact Or.inr rfl)) (pgs_cons (pg_name (i := 2) sc_range_text.nd rfl (by first | exact Or.inl rfl | exact Or.inr rfl)) (pgs_cons (pg_name (i := 3) sc_range_text.nd rfl (by first | exact Or.inl rfl | exact Or.inr rfl)) pgs_nil)))))
    (pss_one (ps_ret (pe_ifExp (pt_cmpR op_eq (pv 3) pe_int (nomark _)) (pe_callTy call_str_int (by rfl) T.str (by decide +kernel) (pa_cons (pv 1) pa_nil)) (pe_joined (.cons (pe_fmt (pv 1)) (.cons pe_str (.cons (pe_fmt (pv 2)) (.cons pe_str (.cons (pe_fmt (pv 3)) .nil)))))))))), ?_⟩
  obtain ⟨a, v1, v2, v3, rfl, hs, r1, r2, r3⟩ := hv.t3
  rw [r1.int_inv, r2.int_inv, r3.int_inv] at hs
  have b1 := iTx_len ok.n1
  have b2 := iTx_len ok.n2
  have b3 := iTx_len ok.n3
  have d1 : ("..":Str).length = 2 := by decide +kernel
  have d2 : ("/":Str).length = 1 := by decide +kernel
  refine ⟨_, rfl, a, _, rfl, hs, rfl, _, _, rfl, _, _, rfl, _, _, rfl, rfl, ?_⟩
  refine ⟨_, rfl, rfl, _, rfl, ?_⟩
  refine ite2 (fun hx => ?_) (fun hx => ?_)
  · have e : r.st = 0 := by simpa using hx
    refine ⟨_, rfl, _, rfl, log_int ok.n1, ?_⟩
    have q := q H (Kp.refl _)
    unfold rgTx at q
    rw [if_pos e] at q
    exact q
  · have e : ¬ r.st = 0 := by simpa using hx
    have q := q H (Kp.refl _)
    unfold rgTx at q
    rw [if_neg e] at q
    have z : ∀ x : Str, x.length ≤ 100 → x.length ≤ sizeLine := fun x h => small_le (by omega)
    refine ⟨_, rfl, .inr ⟨_, rfl, log_int ok.n1, iTx r.lo, rfl, z _ ?_, _, rfl, z _ ?_, _, rfl, .inr ⟨_, rfl, log_int ok.n2, iTx r.hi, rfl, z _ ?_, _, rfl, z _ ?_, _, rfl, .inr ⟨_, rfl, log_int ok.n3, iTx r.st, rfl, z _ ?_, q⟩⟩⟩⟩
    all_goals (simp only [ln_app, ln_empty, d1, d2]; omega)
end
end Cl

/-! Carryclaim: state_text, write_paper, state_at, state_names, zero_entry. -/
namespace Cl
open PySem PySem.Spec PyProof.Rows L2
def tJo (ts : List TE) : TE := fun σ H Q => tJs ts Str.empty σ H fun out H1 => Q (.str out) H1
theorem pe_jo {X : Cx} {v1 v2 : Expr} {rest : List Expr} {ts : List TE} {pos : Pos} (h : PJ X (v1 :: v2 :: rest) ts) : PE X (.JoinedStr (v1 :: v2 :: rest) pos) (tJo ts) := pe_joined h
theorem sz {x : Str} (h : x.length ≤ 100000) : x.length ≤ sizeLine := small_le h
theorem findR (rs : List Row) (nd : (rs.map fun r => (r.nm, r.pl)).Nodup) {pre post : List Row} {x r : Row} (e : rs = pre ++ x :: post) (h : r ∈ rs) (h1 : x.nm = r.nm) (h2 : x.pl = r.pl) : x = r := by
  have hx : x ∈ rs := by rw [e]; simp
  clear e
  induction rs with
  | nil => simp at h
  | cons y l ih =>
    rw [List.map_cons, List.nodup_cons] at nd
    rcases List.mem_cons.mp h with e1 | e1 <;> rcases List.mem_cons.mp hx with e2 | e2
    · rw [e1, e2]
    · exact absurd (List.mem_map.mpr ⟨x, e2, show (x.nm, x.pl) = (y.nm, y.pl) by rw [← e1, h1, h2]⟩) nd.1
    · exact absurd (List.mem_map.mpr ⟨r, e1, show (r.nm, r.pl) = (y.nm, y.pl) by rw [← e2, h1, h2]⟩) nd.1
    · exact ih nd.2 e1 e2
def spStAt (K : PySem.W.Frag) : Sp := fun vs H Q _ => ∃ (v : V) (rs : List Row) (r : Row), vs = [v, .str r.nm, .str r.pl] ∧ Rp K H v (encPap rs) ∧ (rs.map fun r => (r.nm, r.pl)).Nodup ∧ r ∈ rs ∧ ∀ u H', Kp none H H' → Rp K H' u (encSt r.st) → Q u H'
def stNames (g : Pg) (p : Pr) (pl : Str) : List Str := if pl = "in" then g.gl ++ p.ps else if pl = "out" then g.gl ++ [("result" : Str)] else g.gl ++ locs g.gl p.ps p.body
def spStNames (K : PySem.W.Frag) : Sp := fun vs H Q _ => ∃ (v : V) (nm pl : Str) (g : Pg) (p : Pr), vs = [v, .str nm, .str pl] ∧ Rp K H v (encPg g) ∧ WfPg g ∧ findPr g nm = some p ∧ ∀ u H', Kp none H H' → Rp K H' u (.tuple ((stNames g p pl).map .str)) → Q u H'
section
variable {P : Program} {w : World} {K : PySem.W.Frag} {mg : Str → Option Value} {base : Heap}
abbrev s_state_text : Stmt := top 26
abbrev N_state_text : List Str := ["state", "name", "found"]
theorem sc_state_text : FnScope N_state_text ["state"] (defScope s_state_text) := ⟨rfl, rfl, rfl, by decide +kernel, rfl, by decide +kernel, by decide +kernel⟩
theorem ok_state_text (D : Df K mg "state_text" s_state_text ["state"]) (G_range_text : Kn P w K mg base 1 "range_text" ["found"] (spRgTx K)) : Kn P w K mg base 2 "state_text" ["state"] (spStTx K) := by
  refine D.ok sc_state_text (fun vs H Q E h => ?_) (fun f cdv A outer s H vs Q E hr h => ?_)
  · obtain ⟨v, s, rfl, _⟩ := h
    rfl
  obtain ⟨v, st, rfl, hv, ok, q⟩ := h
  refine ⟨_, (pss_cons (ps_if (pt_cmpR op_isN (pv 0) pe_non (nomark _)) (pss_one (ps_ret pe_str)) pss_nil)
    (pss_one (ps_ret (pe_join pe_str (pe_lc (own := [("name", 1), ("found", 2)]) (g := gTup K 2 (gCons (gName 1) (gCons (gName 2) gNil))) (tt := tYes) rfl sc_state_text.nd (pi_tup (pv 0)) (blkOk_by (own := [("name", 1), ("found", 2)]) (N := N_state_text) (sc := defScope s_state_text) (by decide +kernel)) (fun _ _ _ _ _ => (pg_tup rfl (pgs_cons (pg_name (i := 1) sc_state_text.nd rfl (by first | exact Or.inl rfl | exact Or.inr rfl)) (pgs_cons (pg_name (i := 2) sc_state_text.nd rfl (by first | exact Or.inl rfl | exact Or.inr rfl)) pgs_nil)))) (fun _ _ _ _ _ => pts_nil) (fun _ _ _ _ _ => (pe_jo (.cons pe_str (.cons (pe_fmt (pv 1)) (.cons pe_str (.cons (pe_fmt (pe_kn G_range_text hr (pa_cons (pv 2) pa_nil))) .nil))))))))))), ?_⟩
  cases st with
  | none =>
    rw [hv.non_inv]
    exact ⟨_, rfl, rfl, _, rfl, q _ (Kp.refl _)⟩
  | some l =>
    obtain ⟨a, ws, rfl, hs, r⟩ := hv.tup_inv
    refine ⟨_, rfl, rfl, _, rfl, ?_⟩
    refine ⟨⟨_, rfl⟩, _, rfl, a, rfl, ⟨_, hs⟩, fun D hD => lc_dt (m := none) encEn (fun e => .str (enTx e)) l hs r hD (.inr rfl) (small_lt (by have := ok.len l rfl; omega)) ?_ ?_⟩
    · intro e y H' he k ry R hR
      obtain ⟨p1, p2⟩ := ok.ent l rfl e he
      obtain ⟨b, v1, v2, rfl, hb, s1, s2⟩ := ry.t2
      rw [s1.str_inv] at hb
      have l1 := NM_len6 _ p1
      have l2 := rgTx_len p2
      have d1 : (" ":Str).length = 1 := by decide +kernel
      have d2 : ("=":Str).length = 1 := by decide +kernel
      refine ⟨b, _, rfl, hb, rfl, _, _, rfl, _, _, rfl, rfl, rfl, ?_⟩
      refine ⟨_, rfl, sz ?_, _, rfl, .inl ⟨e.1, rfl, sz ?_, _, rfl, sz ?_, _, rfl, sz ?_, _, rfl, v2, e.2, rfl, s2, p2, fun H3 k3 => .inl ⟨rgTx e.2, rfl, sz ?_, _, rfl, sz ?_, hR _ _ k3 (.str _)⟩⟩⟩
      all_goals first | omega | (simp only [ln_app, ln_empty, d1, d2]; omega)
    · intro H' k ls
      obtain ⟨vs, h1, r1⟩ := ls
      have e : vs = (l.map enTx).map V.str := RpA.strs_eq (xs := l.map enTx) (by rw [List.map_map]; exact r1)
      subst e
      refine ⟨"", D, l.map enTx, rfl, rfl, .inl (.inl (.inl h1)), ?_, q _ k⟩
      have h3 : ((l.map enTx).map (·.length)).sum ≤ (l.map enTx).length * 30 := sum_le fun x hx => by
        obtain ⟨e, he, rfl⟩ := List.mem_map.mp hx
        obtain ⟨p, q⟩ := ok.ent l rfl e he
        exact enTx_len p q
      have := ok.len l rfl
      rw [List.length_map] at h3 ⊢
      have h4 : ("":Str).length = 0 := by decide +kernel
      rw [h4]
      omega

abbrev s_write_paper : Stmt := top 25
abbrev N_write_paper : List Str := ["paper", "name", "place", "state"]
theorem sc_write_paper : FnScope N_write_paper ["paper"] (defScope s_write_paper) := ⟨rfl, rfl, rfl, by decide +kernel, rfl, by decide +kernel, by decide +kernel⟩
theorem ok_write_paper (D : Df K mg "write_paper" s_write_paper ["paper"]) (G_state_text : Kn P w K mg base 2 "state_text" ["state"] (spStTx K)) : Kn P w K mg base 3 "write_paper" ["paper"] (spWrite K) := by
  refine D.ok sc_write_paper (fun vs H Q E h => ?_) (fun f cdv A outer s H vs Q E hr h => ?_)
  · obtain ⟨v, s, rfl, _⟩ := h
    rfl
  obtain ⟨v, rs, rfl, hv, hl, ok, q⟩ := h
  refine ⟨_, (pss_one (ps_ret (pe_join pe_str (pe_lc (own := [("name", 1), ("place", 2), ("state", 3)]) (g := gTup K 3 (gCons (gName 1) (gCons (gName 2) (gCons (gName 3) gNil)))) (tt := tYes) rfl sc_write_paper.nd (pi_tup (pv 0)) (blkOk_by (own := [("name", 1), ("place", 2), ("state", 3)]) (N := N_write_paper) (sc := defScope s_write_paper) (by decide +kernel)) (fun _ _ _ _ _ => (pg_tup rfl (pgs_cons (pg_name (i := 1) sc_write_paper.nd rfl (by first | exact Or.inl rfl | exact Or.inr rfl)) (pgs_cons (pg_name (i := 2) sc_write_paper.nd rfl (by first | exact Or.inl rfl | exact Or.inr rfl)) (pgs_cons (pg_name (i := 3) sc_write_paper.nd rfl (by first | exact Or.inl rfl | exact Or.inr rfl)) pgs_nil))))) (fun _ _ _ _ _ => pts_nil) (fun _ _ _ _ _ => (pe_jo (.cons (pe_fmt (pv 1)) (.cons pe_str (.cons (pe_fmt (pv 2)) (.cons (pe_fmt (pe_kn G_state_text hr (pa_cons (pv 3) pa_nil))) (.cons pe_str .nil))))))))))), ?_⟩
  obtain ⟨a, ws, rfl, hs, r⟩ := hv.tup_inv
  refine ⟨⟨_, rfl⟩, _, rfl, a, rfl, ⟨_, hs⟩, fun D hD => lc_dt (m := none) encRow (fun e => .str (rwTx e)) rs hs r hD (.inr rfl) (small_lt (by omega)) ?_ ?_⟩
  · intro e y H' he k ry R hR
    have p := ok e he
    obtain ⟨b, v1, v2, v3, rfl, hb, s1, s2, s3⟩ := ry.t3
    rw [s1.str_inv, s2.str_inv] at hb
    have l1 := PN_len6 _ p.nm
    have l2 := stTx_len p.st
    have l3 := p.pl
    have d1 : (" ":Str).length = 1 := by decide +kernel
    have d2 : ("\n":Str).length = 1 := by decide +kernel
    refine ⟨b, _, rfl, hb, rfl, _, _, rfl, _, _, rfl, _, _, rfl, rfl, rfl, ?_⟩
    refine ⟨_, rfl, .inl ⟨e.nm, rfl, sz ?_, _, rfl, sz ?_, _, rfl, sz ?_, _, rfl, .inl ⟨e.pl, rfl, sz ?_, _, rfl, sz ?_, _, rfl, v3, e.st, rfl, s3, p.st, fun H3 k3 => .inl ⟨stTx e.st, rfl, sz ?_, _, rfl, sz ?_, _, rfl, sz ?_, hR _ _ k3 (.str _)⟩⟩⟩⟩
    all_goals first | omega | (simp only [ln_app, ln_empty, d1, d2]; omega)
  · intro H' k ls
    obtain ⟨vs, h1, r1⟩ := ls
    have e : vs = (rs.map rwTx).map V.str := RpA.strs_eq (xs := rs.map rwTx) (by rw [List.map_map]; exact r1)
    subst e
    refine ⟨"", D, rs.map rwTx, rfl, rfl, .inl (.inl (.inl h1)), ?_, q _ k⟩
    have h3 : ((rs.map rwTx).map (·.length)).sum ≤ (rs.map rwTx).length * 700 := sum_le fun x hx => by
      obtain ⟨e, he, rfl⟩ := List.mem_map.mp hx
      exact rwTx_len (ok e he)
    rw [List.length_map] at h3 ⊢
    have h4 : ("":Str).length = 0 := by decide +kernel
    rw [h4]
    omega

abbrev s_state_at : Stmt := top 20
abbrev N_state_at : List Str := ["paper", "procedure", "place", "name", "other", "state"]
theorem sc_state_at : FnScope N_state_at ["paper", "procedure", "place"] (defScope s_state_at) := ⟨rfl, rfl, rfl, by decide +kernel, rfl, by decide +kernel, by decide +kernel⟩
theorem ok_state_at (D : Df K mg "state_at" s_state_at ["paper", "procedure", "place"]) : Kn P w K mg base 1 "state_at" ["paper", "procedure", "place"] (spStAt K) := by
  refine D.ok sc_state_at (fun vs H Q E h => ?_) (fun f cdv A outer s H vs Q E hr h => ?_)
  · obtain ⟨v, rs, r, rfl, _⟩ := h
    rfl
  obtain ⟨v, rs, r0, rfl, hv, nd, hm, q⟩ := h
  refine ⟨_, (pss_cons (ps_for PassesOwn.never rfl (pi_tup (pv 0)) (pg_tup rfl (pgs_cons (pg_name (i := 3) sc_state_at.nd rfl (by first | exact Or.inl rfl | exact Or.inr rfl)) (pgs_cons (pg_name (i := 4) sc_state_at.nd rfl (by first | exact Or.inl rfl | exact Or.inr rfl)) (pgs_cons (pg_name (i := 5) sc_state_at.nd rfl (by first | exact Or.inl rfl | exact Or.inr rfl)) pgs_nil)))) (pss_one (ps_if (PW.pt (pw_and (pt_cmpR op_eq (pv 3) (pv 1) (nomark _)) (pw_and1 (pt_cmpR op_eq (pv 4) (pv 2) (nomark _))))) (pss_one (ps_ret (pv 5))) pss_nil)))
    (pss_one (ps_ret pe_non))), ?_⟩
  obtain ⟨a, ws, rfl, hs, r⟩ := hv.tup_inv
  refine ⟨_, rfl, a, rfl, ⟨_, hs⟩, for_dt encRow rs hs r (fun l σ' H' => H' = H ∧ (∃ y z u, σ' = [some (.ref a), some (.str r0.nm), some (.str r0.pl), y, z, u]) ∧ ∀ x ∈ l, ¬ (x.nm = r0.nm ∧ x.pl = r0.pl))
    ⟨rfl, ⟨_, _, _, rfl⟩, by simp⟩ (fun l σ' H' p => by rw [p.1]; exact TLe.refl _) ?_ ?_⟩
  · rintro pre x post y σ' H' e ry ⟨rfl, ⟨z1, z2, z3, rfl⟩, hl⟩
    obtain ⟨b, v1, v2, v3, rfl, hb, s1, s2, s3⟩ := ry.t3
    rw [s1.str_inv, s2.str_inv] at hb
    refine ⟨b, _, rfl, hb, rfl, _, _, rfl, _, _, rfl, _, _, rfl, rfl, ?_⟩
    have no : ¬ (x.nm = r0.nm ∧ x.pl = r0.pl) → (∀ z ∈ pre ++ [x], ¬ (z.nm = r0.nm ∧ z.pl = r0.pl)) := fun h z hz => by
      rcases List.mem_append.mp hz with hz | hz
      · exact hl z hz
      · rw [List.mem_singleton.mp hz]; exact h
    refine ⟨_, rfl, _, rfl, rfl, _, rfl, ?_⟩
    refine ite2 (fun hx => ?_) (fun hx => ?_)
    · have h1 : x.nm = r0.nm := by simpa using hx
      refine ⟨_, rfl, _, rfl, rfl, _, rfl, ?_⟩
      refine ite2 (fun hy => ?_) (fun hy => ?_)
      · have h2 : x.pl = r0.pl := by simpa using hy
        have e2 := findR rs nd e hm h1 h2
        subst e2
        exact ⟨_, rfl, q _ _ (Kp.refl _) s3⟩
      · have h2 : ¬ x.pl = r0.pl := by simpa using hy
        exact ⟨rfl, ⟨_, _, _, rfl⟩, no fun h => h2 h.2⟩
    · have h1 : ¬ x.nm = r0.nm := by simpa using hx
      exact ⟨rfl, ⟨_, _, _, rfl⟩, no fun h => h1 h.1⟩
  · rintro σ' H' ⟨rfl, _, hl⟩
    exact absurd ⟨rfl, rfl⟩ (hl r0 hm)

abbrev s_state_names : Stmt := top 22
abbrev N_state_names : List Str := ["program", "procedure", "place"]
theorem sc_state_names : FnScope N_state_names ["program", "procedure", "place"] (defScope s_state_names) := ⟨rfl, rfl, rfl, by decide +kernel, rfl, by decide +kernel, by decide +kernel⟩
theorem ok_state_names (D : Df K mg "state_names" s_state_names ["program", "procedure", "place"]) (G_parameters : Kn P w K mg base 2 "parameters" ["program", "name"] (spParams K)) (G_variables : Kn P w K mg base 8 "variables" ["program", "name"] (spVars K)) :
    Kn P w K mg base 9 "state_names" ["program", "procedure", "place"] (spStNames K) := by
  refine D.ok sc_state_names (fun vs H Q E h => ?_) (fun f cdv A outer s H vs Q E hr h => ?_)
  · obtain ⟨v, nm, pl, g, p, rfl, _⟩ := h
    rfl
  obtain ⟨v, nm, pl, g, p, rfl, hv, wf, hf, q⟩ := h
  refine ⟨_, (pss_cons (ps_if (pt_cmpR op_eq (pv 2) pe_str (nomark _)) (pss_one (ps_ret (pe_op op_catA (pe_ix ix_tup (pv 0) pe_int (fun _ _ => rfl)) (pe_kn G_parameters hr (pa_cons (pv 0) (pa_cons (pv 1) pa_nil)))))) pss_nil)
    (pss_cons (ps_if (pt_cmpR op_eq (pv 2) pe_str (nomark _)) (pss_one (ps_ret (pe_op op_catA (pe_ix ix_tup (pv 0) pe_int (fun _ _ => rfl)) (pe_tup (pa_cons pe_str pa_nil))))) pss_nil)
    (pss_one (ps_ret (pe_kn G_variables hr (pa_cons (pv 0) (pa_cons (pv 1) pa_nil))))))), ?_⟩
  obtain ⟨hm, _⟩ := findPr_mem hf
  have wp := wf.pr p hm
  have hv0 := hv
  obtain ⟨ag, g1, g2, rfl, hg, q1, q2⟩ := hv.t2
  have gl := wf.glen
  have pl2 := wp.plen
  refine ⟨_, rfl, rfl, _, rfl, ?_⟩
  refine ite2 (fun hx => ?_) (fun hx => ?_)
  · have e : pl = "in" := by simpa using hx
    refine ⟨_, rfl, _, _, _, _, rfl, rfl, hg, rfl, _, rfl, _, rfl, _, nm, g, p, rfl, hv0, hf, fun u H1 k1 r1 => ?_⟩
    refine cat_ok (q1.mono k1.tle) r1 (by simp only [List.length_map]; omega) fun y H' k r => ?_
    rw [← List.map_append] at r
    refine q _ _ (k1.trans k) ?_
    unfold stNames
    rw [if_pos e]
    exact r
  have e1 : ¬ pl = "in" := by simpa using hx
  refine ⟨_, rfl, rfl, _, rfl, ?_⟩
  refine ite2 (fun hx => ?_) (fun hx => ?_)
  · have e : pl = "out" := by simpa using hx
    refine ⟨_, rfl, _, _, _, _, rfl, rfl, hg, rfl, small_le (by simp), fun t ht => ?_⟩
    have k1 : Kp none H (upd H t (.tup [.str "result"])) := (Kp.refl _).new ht
    refine cat_ok (q1.mono k1.tle) (Rp.mk ht (.cons (.str _) .nil)) (by simp only [List.length_map, List.length_cons, List.length_nil]; omega) fun y H' k r => ?_
    refine q _ _ (k1.trans k) ?_
    unfold stNames
    rw [if_neg e1, if_pos e, List.map_append]
    exact r
  have e2 : ¬ pl = "out" := by simpa using hx
  refine ⟨_, rfl, _, rfl, _, nm, g, p, rfl, hv0, wf, hf, fun u H1 k1 r1 => ?_⟩
  refine q _ _ k1 ?_
  unfold stNames
  rw [if_neg e1, if_neg e2]
  exact r1
end
end Cl

/-! Carryclaim: all_places, zero_entry, paper_of, blank_paper. -/
namespace Cl
open PySem PySem.Spec PyProof.Rows L2
abbrev PP := Str × Str
/-- tracked pairs -/
inductive PrA (H : Hp) : List V → List PP → Prop
  | nil : PrA H [] []
  | cons {b : Addr} {vs : List V} {n z : Str} {xs : List PP} : H b = some (.tup [.str n, .str z]) → PrA H vs xs → PrA H (.ref b :: vs) ((n, z) :: xs)
theorem PrA.mono {H H' : Hp} (e : TLe H H') : ∀ {vs : List V} {xs : List PP}, PrA H vs xs → PrA H' vs xs
  | _, _, .nil => .nil
  | _, _, .cons h r => .cons ((e _).1 _ h) (r.mono e)
theorem PrA.app {H : Hp} : ∀ {vs ws : List V} {xs ys : List PP}, PrA H vs xs → PrA H ws ys → PrA H (vs ++ ws) (xs ++ ys)
  | _, _, _, _, .nil, s => s
  | _, _, _, _, .cons h r, s => .cons h (r.app s)
theorem PrA.len {H : Hp} : ∀ {vs : List V} {xs : List PP}, PrA H vs xs → vs.length = xs.length
  | _, _, .nil => rfl
  | _, _, .cons _ r => congrArg (· + 1) r.len
theorem PrA.get {H : Hp} : ∀ {vs : List V} {xs : List PP} {i : Nat} {x : PP}, PrA H vs xs → xs[i]? = some x → ∃ b, vs[i]? = some (.ref b) ∧ H b = some (.tup [.str x.1, .str x.2])
  | _, _, _, _, .nil, e => by simp at e
  | _, _, 0, _, .cons h _, e => by simp at e; subst e; exact ⟨_, rfl, h⟩
  | _, _, i + 1, x, .cons _ t, e => by
    obtain ⟨b, h1, h2⟩ := PrA.get (i := i) (x := x) t (by simpa using e)
    exact ⟨b, by simpa using h1, h2⟩
def LsT (H : Hp) (p : Addr) (xs : List PP) : Prop := ∃ vs, H p = some (.lst vs) ∧ PrA H vs xs
def prows (l : List Pr) : List PP := l.flatMap fun p => (placesL p.body).map fun z => (p.name, z)
theorem prows_snoc (l : List Pr) (p : Pr) : prows (l ++ [p]) = prows l ++ (placesL p.body).map fun z => (p.name, z) := by simp [prows]
theorem WfPg.rows {g : Pg} (w : WfPg g) : (prows g.prs).length ≤ 3608 := by
  have h : ∀ l : List Pr, (∀ p ∈ l, (allL p.body).length ≤ 900) → (prows l).length ≤ l.length * 902 := by
    intro l
    induction l with
    | nil => intro _; simp [prows]
    | cons p l ih =>
      intro hp
      have h1 := ih fun q hq => hp q (List.mem_cons_of_mem _ hq)
      have h2 := hp p List.mem_cons_self
      have h3 := placesL_len p.body
      have e : prows (p :: l) = (placesL p.body).map (fun z => (p.name, z)) ++ prows l := by simp [prows]
      rw [e, List.length_append, List.length_map, List.length_cons]
      omega
  have h1 := h g.prs fun p hp => (w.pr p hp).cnt
  have h2 := w.len
  omega
theorem prows_mem {l : List Pr} {x : PP} : x ∈ prows l ↔ ∃ p ∈ l, p.name = x.1 ∧ x.2 ∈ placesL p.body := by
  unfold prows
  rw [List.mem_flatMap]
  constructor
  · rintro ⟨p, hp, hx⟩
    obtain ⟨z, hz, rfl⟩ := List.mem_map.mp hx
    exact ⟨p, hp, rfl, hz⟩
  · rintro ⟨p, hp, e, hz⟩
    exact ⟨p, hp, List.mem_map.mpr ⟨x.2, hz, by rw [e]⟩⟩
theorem prows_nd : ∀ {l : List Pr}, (l.map (·.name)).Nodup → (prows l).Nodup
  | [], _ => by simp [prows]
  | p :: l, h => by
    rw [List.map_cons, List.nodup_cons] at h
    have e : prows (p :: l) = (placesL p.body).map (fun z => (p.name, z)) ++ prows l := by simp [prows]
    rw [e, List.nodup_append]
    refine ⟨nd_map (placesL_nd p.body) fun a _ b _ q => (Prod.mk.inj q).2, prows_nd h.2, fun a ha b hb q => ?_⟩
    obtain ⟨z, hz, rfl⟩ := List.mem_map.mp ha
    subst q
    obtain ⟨p', hp', e', _⟩ := prows_mem.mp hb
    exact h.1 (List.mem_map.mpr ⟨p', hp', e'⟩)

section
variable {α : Type} {K : PySem.W.Frag} {a : Addr} {vs : List V} {H H0 : Hp} {Qd : Hp → Prop} {step : V → Hp → (Hp → Prop) → Prop}
/-- a walk along a tuple of data -/
theorem loop_dt (enc : α → PyData) (xs : List α) (hA : SqT K H a vs) (r : RpA K H vs (xs.map enc)) (Pv : List α → Hp → Prop) (h0 : Pv [] H0) (ht : ∀ l H', Pv l H' → TLe H H')
    (hs : ∀ pre x post y H', xs = pre ++ x :: post → Rp K H' y (enc x) → Pv pre H' → step y H' (Pv (pre ++ [x]))) (hd : ∀ H', Pv xs H' → Qd H') :
    ∃ W : Nat → Nat → Hp → Prop, (∃ m, W 0 m H0) ∧ ∀ i m H, W i m H →
      ((Itt K a).stop i H ∧ Qd H) ∨ ((Itt K a).go i H ∧ ∃ Nx : Hp → Prop, (∀ H', Nx H' → ∃ m', m' < m ∧ W (i + 1) m' H') ∧ ∀ x H', (Itt K a).yld i H x H' → step x H' Nx) := by
  have hl : vs.length = xs.length := by rw [r.len, List.length_map]
  refine ⟨fun i m H' => m = xs.length - i ∧ i ≤ xs.length ∧ Pv (xs.take i) H', ⟨xs.length, by simp, Nat.zero_le _, by simpa using h0⟩, ?_⟩
  rintro i m H' ⟨rfl, hi, p⟩
  have q : SqT K H' a vs := (ht _ _ p).seqT hA
  by_cases hlt : i < xs.length
  · have hx : xs[i]? = some xs[i] := List.getElem?_eq_getElem hlt
    obtain ⟨y, hy, ry⟩ := r.get' (i := i) (d := enc xs[i]) (by rw [List.getElem?_map, hx]; rfl)
    refine .inr ⟨⟨vs, y, q, hy⟩, Pv (xs.take (i + 1)), fun H2 p => ⟨xs.length - (i + 1), by omega, rfl, hlt, p⟩, fun x H2 z => ?_⟩
    obtain ⟨rfl, z⟩ := z
    have ex : x = y := by
      have z := z _ q
      rw [hy] at z
      exact (Option.some.inj z).symm
    subst ex
    obtain ⟨e1, e2⟩ := take_split hx
    rw [e2]
    exact hs _ _ _ _ _ e1 (ry.mono (ht _ _ p)) p
  · have e : i = xs.length := by omega
    subst e
    rw [List.take_length] at p
    exact .inl ⟨⟨vs, q, by omega⟩, hd H' p⟩
/-- a walk along a list of tracked pairs -/
theorem loop_pl (xs : List PP) (hA : SqL K H a vs) (r : PrA H vs xs) (Pv : List PP → Hp → Prop) (h0 : Pv [] H0) (ht : ∀ l H', Pv l H' → TLe H H' ∧ SqL K H' a vs)
    (hs : ∀ pre x post b H', xs = pre ++ x :: post → H' b = some (.tup [.str x.1, .str x.2]) → Pv pre H' → step (.ref b) H' (Pv (pre ++ [x]))) (hd : ∀ H', Pv xs H' → Qd H') :
    ∃ W : Nat → Nat → Hp → Prop, (∃ m, W 0 m H0) ∧ ∀ i m H, W i m H →
      ((Itl K a).stop i H ∧ Qd H) ∨ ((Itl K a).go i H ∧ ∃ Nx : Hp → Prop, (∀ H', Nx H' → ∃ m', m' < m ∧ W (i + 1) m' H') ∧ ∀ x H', (Itl K a).yld i H x H' → step x H' Nx) := by
  have hl : vs.length = xs.length := r.len
  refine ⟨fun i m H' => m = xs.length - i ∧ i ≤ xs.length ∧ Pv (xs.take i) H', ⟨xs.length, by simp, Nat.zero_le _, by simpa using h0⟩, ?_⟩
  rintro i m H' ⟨rfl, hi, p⟩
  have q : SqL K H' a vs := (ht _ _ p).2
  by_cases hlt : i < xs.length
  · have hx : xs[i]? = some xs[i] := List.getElem?_eq_getElem hlt
    obtain ⟨b, hy, ry⟩ := r.get hx
    refine .inr ⟨⟨vs, .ref b, q, hy⟩, Pv (xs.take (i + 1)), fun H2 p => ⟨xs.length - (i + 1), by omega, rfl, hlt, p⟩, fun x H2 z => ?_⟩
    obtain ⟨rfl, z⟩ := z
    have ex : x = .ref b := by
      have z := z _ q
      rw [hy] at z
      exact (Option.some.inj z).symm
    subst ex
    obtain ⟨e1, e2⟩ := take_split hx
    rw [e2]
    exact hs _ _ _ _ _ e1 (((ht _ _ p).1 _).1 _ ry) p
  · have e : i = xs.length := by omega
    subst e
    rw [List.take_length] at p
    exact .inl ⟨⟨vs, q, by omega⟩, hd H' p⟩
end

def spAllPl (K : PySem.W.Frag) : Sp := fun vs H Q _ => ∃ (v : V) (g : Pg), vs = [v] ∧ Rp K H v (encPg g) ∧ WfPg g ∧ ∀ p H', Kp none H H' → H p = none → LsT H' p (prows g.prs) → Q (.ref p) H'
def zRg : Rg := ⟨0, 0, 0⟩
def zSt (g : Pg) : Ste := some (g.gl.map fun n => (n, zRg))
def spZero (K : PySem.W.Frag) : Sp := fun vs H Q _ => ∃ (v : V) (g : Pg), vs = [v] ∧ Rp K H v (encPg g) ∧ WfPg g ∧ ∀ u H', Kp none H H' → Rp K H' u (encSt (zSt g)) → Q u H'
def pK (x : PP) : List Key := [.inr x.1, .inr x.2]
theorem pK_inj {x y : PP} (h : pK x = pK y) : x = y := by
  have h1 := (List.cons.inj h).1
  have h2 := (List.cons.inj (List.cons.inj h).2).1
  exact Prod.ext (Sum.inr.inj h1) (Sum.inr.inj h2)
def mkRow (f : PP → Ste) (x : PP) : Row := ⟨x.1, x.2, f x⟩
def spPapOf (K : PySem.W.Frag) : Sp := fun vs H Q _ => ∃ (v : V) (d : Addr) (kvs : List (List Key × V)) (g : Pg) (f : PP → Ste), vs = [v, .ref d] ∧ Rp K H v (encPg g) ∧ WfPg g ∧ H d = some (.dT kvs) ∧ (∀ x ∈ prows g.prs, ∃ y, valV kvs (pK x) = some y ∧ Rp K H y (encSt (f x))) ∧
  ∀ u H', Kp none H H' → Rp K H' u (encPap ((prows g.prs).map (mkRow f))) → Q u H'
def blkSt (g : Pg) (x : PP) : Ste := if x = (("main" : Str), ("in" : Str)) then zSt g else none
def spBlank (K : PySem.W.Frag) : Sp := fun vs H Q _ => ∃ (v : V) (g : Pg), vs = [v] ∧ Rp K H v (encPg g) ∧ WfPg g ∧ ∀ u H', Kp none H H' → Rp K H' u (encPap ((prows g.prs).map (mkRow (blkSt g)))) → Q u H'
section
variable {P : Program} {w : World} {K : PySem.W.Frag} {mg : Str → Option Value} {base : Heap}
abbrev s_all_places : Stmt := top 19
abbrev N_all_places : List Str := ["program", "procedure", "place"]
theorem sc_all_places : FnScope N_all_places ["program"] (defScope s_all_places) := ⟨rfl, rfl, rfl, by decide +kernel, rfl, by decide +kernel, by decide +kernel⟩
theorem ok_all_places (D : Df K mg "all_places" s_all_places ["program"]) (G_places : Kn P w K mg base 6 "places" ["program", "name"] (spPlaces K)) : Kn P w K mg base 7 "all_places" ["program"] (spAllPl K) := by
  refine D.ok sc_all_places (fun vs H Q E h => ?_) (fun f cdv A outer s H vs Q E hr h => ?_)
  · obtain ⟨v, g, rfl, _⟩ := h
    rfl
  obtain ⟨v, g, rfl, hv, wf, q⟩ := h
  refine ⟨_, (pss_one (ps_ret (pe_lc2 (own := [("procedure", 1), ("place", 2)]) (vs1 := [2]) (wi1 := iTup K _) (g := gName 1) (g1 := gName 2) (tt := tYes) (tt1 := tYes) rfl sc_all_places.nd (pi_tup (pe_ix ix_tup (pv 0) pe_int (fun _ _ => rfl))) (blkOk_by (own := [("procedure", 1), ("place", 2)]) (N := N_all_places) (sc := defScope s_all_places) (by decide +kernel)) (by decide) (fun _ _ _ _ _ => (pg_name (i := 1) sc_all_places.nd rfl (by first | exact Or.inl rfl | exact Or.inr rfl))) (fun _ _ _ _ _ => pts_nil) (fun _ _ _ _ _ => (pi_tup (pe_kn G_places hr (pa_cons (pv 0) (pa_cons (pe_ix (r := rIxT K) ix_tup (pv 1) pe_int (fun _ _ => rfl)) pa_nil))))) (fun _ _ _ _ _ => (pg_name (i := 2) sc_all_places.nd rfl (by first | exact Or.inl rfl | exact Or.inr rfl))) (fun _ _ _ _ _ => pts_nil) (fun _ _ _ _ _ => (pe_tup (pa_cons (pe_ix (r := rIxT K) ix_tup (pv 1) pe_int (fun _ _ => rfl)) (pa_cons (pv 2) pa_nil))))))), ?_⟩
  have hv0 := hv
  obtain ⟨ag, g1, g2, rfl, hg, q1, q2⟩ := hv.t2
  obtain ⟨b, ws, rfl, hs, r⟩ := q2.tup_inv
  refine ⟨_, rfl, _, _, _, _, rfl, rfl, hg, rfl, b, rfl, ⟨_, hs⟩, fun D hD => loop_dt encPr g.prs hs r (fun l H' => Kp none H H' ∧ LsT H' D (prows l)) ⟨(Kp.refl _).new hD, [], upd_same, by simpa [prows] using PrA.nil⟩ (fun l H' p => p.1.tle) ?_ ?_⟩
  · rintro pre x post y H' e ry ⟨k, acc, hacc, racc⟩
    have hm : x ∈ g.prs := by rw [e]; simp
    have wp := wf.pr x hm
    have hz : (prows pre).length + (placesL x.body).length ≤ 3608 := by
      have h1 := wf.rows
      rw [e] at h1
      have e2 : prows (pre ++ x :: post) = prows (pre ++ [x]) ++ prows post := by simp [prows]
      rw [e2, prows_snoc, List.length_append, List.length_append, List.length_map] at h1
      omega
    obtain ⟨c, v1, v2, v3, rfl, hc, s1, s2, s3⟩ := ry.t3
    rw [s1.str_inv] at hc
    refine ⟨rfl, ?_⟩
    refine ⟨_, rfl, _, rfl, _, _, _, _, rfl, rfl, hc, rfl, _, x.name, g, x, rfl, hv0.mono k.tle, wf.find hm, wp.dep, wp.cnt, fun u H2 k2 r2 => ?_⟩
    obtain ⟨d, us, rfl, hd, ru⟩ := r2.tup_inv
    refine ⟨d, rfl, ⟨_, hd⟩, loop_dt PyData.str (placesL x.body) hd ru (fun l H' => Kp none H H' ∧ TLe H2 H' ∧ LsT H' D (prows pre ++ l.map fun z => (x.name, z)))
      ⟨k.trans k2, TLe.refl _, acc, k2.of hacc, by simpa using racc.mono k2.tle⟩ (fun l H' p => p.2.1) ?_ ?_⟩
    · rintro pre2 z post2 y2 H3 e2 rz ⟨k3, t3, acc3, hacc3, racc3⟩
      rw [rz.str_inv]
      refine ⟨rfl, ?_⟩
      refine ⟨_, rfl, _, _, _, _, rfl, rfl, (k2.tle.trans t3).seqT hc, rfl, _, rfl, small_le (by simp), fun T hT => ?_⟩
      have k4 : Kp none H3 (upd H3 T (.tup [.str x.name, .str z])) := (Kp.refl _).new hT
      have ha4 := k4.of hacc3
      have l4 := racc3.len
      rw [List.length_append, List.length_map] at l4
      have l5 : pre2.length < (placesL x.body).length := by rw [e2]; simp
      refine ⟨acc3, ha4, small_lt (by omega), (k3.trans k4).put hD, (t3.trans k4.tle).trans (TLe.put ha4), acc3 ++ [.ref T], upd_same, ?_⟩
      have e3 : prows pre ++ (pre2 ++ [z]).map (fun z => (x.name, z)) = (prows pre ++ pre2.map fun z => (x.name, z)) ++ [(x.name, z)] := by simp
      rw [e3]
      exact ((racc3.mono k4.tle).app (.cons upd_same .nil)).mono (TLe.put ha4)
    · rintro H3 ⟨k3, t3, ls⟩
      exact ⟨k3, by rw [prows_snoc]; exact ls⟩
  · rintro H' ⟨k, ls⟩
    exact q _ _ k hD ls

abbrev s_zero_entry : Stmt := top 23
abbrev N_zero_entry : List Str := ["program", "name"]
theorem sc_zero_entry : FnScope N_zero_entry ["program"] (defScope s_zero_entry) := ⟨rfl, rfl, rfl, by decide +kernel, rfl, by decide +kernel, by decide +kernel⟩
theorem ok_zero_entry (T : Bl mg) {za : Addr} (hza : mg "ZERO" = some (.ref za)) (hzs : ∀ H, SqT K H za [.int 0, .int 0, .int 0]) (D : Df K mg "zero_entry" s_zero_entry ["program"]) : Kn P w K mg base 1 "zero_entry" ["program"] (spZero K) := by
  refine D.ok sc_zero_entry (fun vs H Q E h => ?_) (fun f cdv A outer s H vs Q E hr h => ?_)
  · obtain ⟨v, g, rfl, _⟩ := h
    rfl
  obtain ⟨v, g, rfl, hv, wf, q⟩ := h
  refine ⟨_, (pss_one (ps_ret (pe_callTy call_tuple_of (by rfl) T.tuple (by decide +kernel) (pa_cons (pe_lc (own := [("name", 1)]) (g := gName 1) (tt := tYes) rfl sc_zero_entry.nd (pi_tup (pe_ix ix_tup (pv 0) pe_int (fun _ _ => rfl))) (blkOk_by (own := [("name", 1)]) (N := N_zero_entry) (sc := defScope s_zero_entry) (by decide +kernel)) (fun _ _ _ _ _ => (pg_name (i := 1) sc_zero_entry.nd rfl (by first | exact Or.inl rfl | exact Or.inr rfl))) (fun _ _ _ _ _ => pts_nil) (fun _ _ _ _ _ => (pe_tup (pa_cons (pv 1) (pa_cons (pe_glob (v := .ref za) rfl hza rfl) pa_nil))))) pa_nil)))), ?_⟩
  obtain ⟨ag, g1, g2, rfl, hg, q1, q2⟩ := hv.t2
  obtain ⟨b, ws, rfl, hs, r⟩ := q1.tup_inv
  have gl := wf.glen
  refine ⟨_, rfl, _, _, _, _, rfl, rfl, hg, rfl, b, rfl, ⟨_, hs⟩, fun D hD => lc_dt (m := none) PyData.str (fun n => encEn (n, zRg)) g.gl hs r hD (.inr rfl) (small_lt (by omega)) ?_ ?_⟩
  · intro n y H' hn k ry R hR
    rw [ry.str_inv]
    refine ⟨rfl, _, rfl, small_le (by simp), fun T hT => ?_⟩
    exact hR _ _ ((Kp.refl _).new hT) (Rp.mk hT (.cons (.str _) (.cons (.tup (hzs _) (.cons (.int 0) (.cons (.int 0) (.cons (.int 0) .nil)))) .nil)))
  · intro H' k ls
    obtain ⟨vs, h1, r1⟩ := ls
    refine ⟨D, vs, rfl, .inl ⟨.inl (.inl h1), fun l hl => ?_⟩⟩
    refine q _ _ (k.new hl) ?_
    have r2 := Rp.mk hl r1
    have e : g.gl.map (fun n => encEn (n, zRg)) = (g.gl.map fun n => (n, zRg)).map encEn := by rw [List.map_map]; rfl
    rw [e] at r2
    exact r2

abbrev s_paper_of : Stmt := top 21
abbrev N_paper_of : List Str := ["program", "states", "procedure", "place"]
theorem sc_paper_of : FnScope N_paper_of ["program", "states"] (defScope s_paper_of) := ⟨rfl, rfl, rfl, by decide +kernel, rfl, by decide +kernel, by decide +kernel⟩
theorem ok_paper_of (T : Bl mg) (D : Df K mg "paper_of" s_paper_of ["program", "states"]) (G_all_places : Kn P w K mg base 7 "all_places" ["program"] (spAllPl K)) : Kn P w K mg base 8 "paper_of" ["program", "states"] (spPapOf K) := by
  refine D.ok sc_paper_of (fun vs H Q E h => ?_) (fun f cdv A outer s H vs Q E hr h => ?_)
  · obtain ⟨v, d, kvs, g, f, rfl, _⟩ := h
    rfl
  obtain ⟨v, d, kvs, g, fs, rfl, hv, wf, hd, hk, q⟩ := h
  have hu : (A.deeper (envOfC "paper_of" (defScope s_paper_of) s.heap.objs.size f cdv)).units + 1 < cLine := by have := hr.units; omega
  refine ⟨_, (pss_one (ps_ret (pe_callTy call_tuple_of (by rfl) T.tuple (by decide +kernel) (pa_cons (pe_lc (own := [("procedure", 2), ("place", 3)]) (g := gTup K 2 (gCons (gName 2) (gCons (gName 3) gNil))) (tt := tYes) rfl sc_paper_of.nd (pi_list (pe_kn G_all_places hr (pa_cons (pv 0) pa_nil))) (blkOk_by (own := [("procedure", 2), ("place", 3)]) (N := N_paper_of) (sc := defScope s_paper_of) (by decide +kernel)) (fun _ _ _ _ _ => (pg_tup rfl (pgs_cons (pg_name (i := 2) sc_paper_of.nd rfl (by first | exact Or.inl rfl | exact Or.inr rfl)) (pgs_cons (pg_name (i := 3) sc_paper_of.nd rfl (by first | exact Or.inl rfl | exact Or.inr rfl)) pgs_nil)))) (fun _ _ _ _ _ => pts_nil) (fun _ _ _ _ _ => (pe_tup (pa_cons (pv 2) (pa_cons (pv 3) (pa_cons (pe_dget hu (pv 1) (pe_tup (pa_cons (pv 2) (pa_cons (pv 3) pa_nil))) (fun _ _ => rfl)) pa_nil)))))) pa_nil)))), ?_⟩
  refine ⟨_, rfl, v, g, rfl, hv, wf, fun p H1 k1 n1 ls => ?_⟩
  obtain ⟨vs, hp, rv⟩ := ls
  have hl := wf.rows
  refine ⟨p, rfl, ⟨_, .inl (.inl hp)⟩, fun D hD => loop_pl (prows g.prs) (.inl (.inl hp)) rv (fun l H' => Kp none H1 H' ∧ Ls K H' D (l.map fun x => encRow (mkRow fs x))) ⟨(Kp.refl _).new hD, [], upd_same, .nil⟩ (fun l H' z => ⟨z.1.tle, z.1.lst (.inl (.inl hp))⟩) ?_ ?_⟩
  · rintro pre x post b H' e hb ⟨k, acc, hacc, racc⟩
    have hx : x ∈ prows g.prs := by rw [e]; simp
    obtain ⟨y, hy, ry⟩ := hk x hx
    refine ⟨b, _, rfl, .inl (.inl hb), rfl, _, _, rfl, _, _, rfl, rfl, rfl, ?_⟩
    refine ⟨_, rfl, _, rfl, _, rfl, _, rfl, _, rfl, small_le (by simp), fun T1 hT1 => ?_⟩
    have k2 : Kp none H' (upd H' T1 (.tup [.str x.1, .str x.2])) := (Kp.refl _).new hT1
    have hd2 := k2.of (k.of (k1.of hd))
    refine ⟨d, y, rfl, ?_, small_le (by simp), fun T2 hT2 => ?_⟩
    · rw [← hy]
      exact DGet.t (k := pK x) hd2 upd_same
    have k3 := k2.new (o := .tup [.str x.1, .str x.2, y]) hT2
    have ha := k3.of hacc
    have l4 := racc.len
    rw [List.length_map] at l4
    have l5 : pre.length < (prows g.prs).length := by rw [e]; simp
    refine ⟨acc, ha, small_lt (by omega), (k.trans k3).put hD, acc ++ [.ref T2], upd_same, ?_⟩
    have rT : Rp K (upd (upd H' T1 (.tup [.str x.1, .str x.2])) T2 (.tup [.str x.1, .str x.2, y])) (.ref T2) (encRow (mkRow fs x)) :=
      Rp.mk hT2 (.cons (.str _) (.cons (.str _) (.cons (ry.mono ((k1.trans k).trans k2).tle) .nil)))
    rw [List.map_append]
    exact ((racc.mono k3.tle).snoc rT).mono (TLe.put ha)
  · rintro H' ⟨k, vs2, h1, r1⟩
    refine ⟨D, vs2, rfl, .inl ⟨.inl (.inl h1), fun l hl => ?_⟩⟩
    refine q _ _ ((k1.trans k).new hl) ?_
    have r2 := Rp.mk hl r1
    have e : (prows g.prs).map (fun x => encRow (mkRow fs x)) = ((prows g.prs).map (mkRow fs)).map encRow := by rw [List.map_map]; rfl
    rw [e] at r2
    exact r2

def putAll (l : List PP) : List (List Key × V) := l.foldl (fun kvs x => putK kvs (pK x) .non) []
theorem putAll_snoc (l : List PP) (x : PP) : putAll (l ++ [x]) = putK (putAll l) (pK x) .non := by simp [putAll]
theorem snoc_ind {α : Type} {p : List α → Prop} (h0 : p []) (hs : ∀ l x, p l → p (l ++ [x])) : ∀ l, p l := by
  have h : ∀ l : List α, p l.reverse := by
    intro l
    induction l with
    | nil => exact h0
    | cons x r ih => rw [List.reverse_cons]; exact hs _ _ ih
  intro l
  have := h l.reverse
  rwa [List.reverse_reverse] at this
theorem putAll_len (l : List PP) : (putAll l).length ≤ l.length := by
  refine snoc_ind (p := fun l => (putAll l).length ≤ l.length) ?_ ?_ l
  · simp [putAll]
  · intro l x ih
    rw [putAll_snoc, List.length_append]
    have := length_putK (putAll l) (pK x) .non
    simp; omega
theorem putAll_val (l : List PP) {x : PP} (h : x ∈ l) : valV (putAll l) (pK x) = some .non := by
  revert h
  refine snoc_ind (p := fun l => x ∈ l → valV (putAll l) (pK x) = some .non) ?_ ?_ l
  · intro h; simp at h
  · intro l y ih h
    rw [putAll_snoc, valV_put]
    split
    · rfl
    · rename_i ne
      rcases List.mem_append.mp h with h | h
      · exact ih h
      · rw [List.mem_singleton.mp h] at ne
        exact absurd rfl ne
abbrev s_blank_paper : Stmt := top 24
abbrev N_blank_paper : List Str := ["program", "states", "pair"]
theorem sc_blank_paper : FnScope N_blank_paper ["program"] (defScope s_blank_paper) := ⟨rfl, rfl, rfl, by decide +kernel, rfl, by decide +kernel, by decide +kernel⟩
theorem ok_blank_paper (D : Df K mg "blank_paper" s_blank_paper ["program"]) (G_all_places : Kn P w K mg base 7 "all_places" ["program"] (spAllPl K)) (G_zero_entry : Kn P w K mg base 1 "zero_entry" ["program"] (spZero K))
    (G_paper_of : Kn P w K mg base 8 "paper_of" ["program", "states"] (spPapOf K)) : Kn P w K mg base 9 "blank_paper" ["program"] (spBlank K) := by
  refine D.ok sc_blank_paper (fun vs H Q E h => ?_) (fun f cdv A outer s H vs Q E hr h => ?_)
  · obtain ⟨v, g, rfl, _⟩ := h
    rfl
  obtain ⟨v, g, rfl, hv, wf, q⟩ := h
  have hu : (A.deeper (envOfC "blank_paper" (defScope s_blank_paper) s.heap.objs.size f cdv)).units + 1 < cLine := by have := hr.units; omega
  refine ⟨_, (pss_cons (ps_setDcT (i := 1) (own := [("pair", 2)]) (g := gName 2) (tt := tYes) hu rfl sc_blank_paper.nd rfl rfl (sw_trueD rfl rfl rfl (by decide +kernel)) (pi_list (pe_kn G_all_places hr (pa_cons (pv 0) pa_nil))) (blkOk_by (own := [("pair", 2)]) (N := N_blank_paper) (sc := defScope s_blank_paper) (by decide +kernel)) (fun _ _ _ _ _ => (pg_name (i := 2) sc_blank_paper.nd rfl (by first | exact Or.inl rfl | exact Or.inr rfl))) (fun _ _ _ _ _ => pts_nil) (fun _ _ _ _ _ => (pv 2)) (fun _ _ _ _ _ => pe_non))
    (pss_cons (ps_dput hu (pv 1) (pe_tup (pa_cons pe_str (pa_cons pe_str pa_nil))) (pe_kn G_zero_entry hr (pa_cons (pv 0) pa_nil)) rfl)
    (pss_one (ps_ret (pe_kn G_paper_of hr (pa_cons (pv 0) (pa_cons (pv 1) pa_nil))))))), ?_⟩
  have hl := wf.rows
  refine ⟨_, rfl, v, g, rfl, hv, wf, fun p H1 k1 n1 ls => ?_⟩
  obtain ⟨vs, hp, rv⟩ := ls
  refine ⟨p, rfl, ⟨_, .inl (.inl hp)⟩, fun D hD => loop_pl (prows g.prs) (.inl (.inl hp)) rv (fun l H' => Kp none H1 H' ∧ H' D = some (.dT (putAll l))) ⟨(Kp.refl _).new hD, upd_same⟩ (fun l H' z => ⟨z.1.tle, z.1.lst (.inl (.inl hp))⟩) ?_ ?_⟩
  · rintro pre x post b H' e hb ⟨k, hd⟩
    refine ⟨rfl, _, rfl, b, pK x, putAll pre, rfl, hb, hd, small_lt ?_, k.put hD, ?_⟩
    · have h1 := putAll_len pre
      have h2 := congrArg List.length e
      rw [List.length_append] at h2
      omega
    · rw [upd_same, putAll_snoc]
  · rintro H' ⟨k, hd⟩
    refine ⟨_, rfl, v, g, rfl, hv.mono (k1.trans k).tle, wf, fun u H2 k2 r2 => ?_⟩
    refine ⟨_, rfl, small_le (by simp), fun T hT => ?_⟩
    have k3 := k2.new (o := .tup [.str "main", .str "in"]) hT
    have hd3 := k3.of hd
    refine ⟨D, _, rfl, DPut.t (k := pK ("main", "in")) hd3 upd_same (small_lt (by have := putAll_len (prows g.prs); omega)), ?_⟩
    have k4 : Kp none H (upd (upd H2 T (.tup [.str "main", .str "in"])) D (.dT (putK (putAll (prows g.prs)) (pK ("main", "in")) u))) := ((k1.trans k).trans k3).put (k1.dom _ hD)
    have t4 : TLe H2 (upd (upd H2 T (.tup [.str "main", .str "in"])) D (.dT (putK (putAll (prows g.prs)) (pK ("main", "in")) u))) := by
      have ht : TLe H2 (upd H2 T (.tup [.str "main", .str "in"])) := TLe.new hT
      refine ht.trans fun a => ⟨fun xs h => ?_, fun o u h => ?_⟩
      · rw [upd_ne (ne_of h hd3 (by intro z; cases z))]; exact h
      · rw [upd_ne (ne_of h hd3 (by intro z; cases z))]; exact h
    refine ⟨_, rfl, _, rfl, v, D, _, g, blkSt g, rfl, hv.mono k4.tle, wf, upd_same, fun x hx => ?_, fun u2 H5 k5 r5 => q _ _ (k4.trans k5) r5⟩
    rw [valV_put]
    by_cases e : x = (("main" : Str), ("in" : Str))
    · refine ⟨u, by rw [if_pos (congrArg pK e)], ?_⟩
      unfold blkSt
      rw [if_pos e]
      exact r2.mono t4
    · refine ⟨.non, by rw [if_neg fun h => e (pK_inj h), putAll_val _ hx], ?_⟩
      unfold blkSt
      rw [if_neg e]
      exact .non
end
end Cl

/-! Carryclaim: read_number, read_range. -/
namespace Cl
open PySem PySem.Spec PyProof.Rows L2
/-- a def whose code object is known -/
def DfC (K : PySem.W.Frag) (mg : Str → Option Value) (x : Str) (st : Stmt) (ps : List Str) (c : Addr) : Prop :=
  ∃ (f : Addr) (fd : FuncData), Fun K x x st f fd ∧ Binds K fd ps [] ∧ mg x = some (.ref f) ∧ fd.code = .ref c
theorem DfC.ok {P : Program} {w : World} {K : PySem.W.Frag} {mg : Str → Option Value} {base : Heap} {x : Str} {st : Stmt} {N ps : List Str} {k : Nat} {sp : Sp} {c : Addr} (D : DfC K mg x st ps c) (S : FnScope N ps (defScope st))
    (len : ∀ vs H Q E, sp vs H Q E → vs.length = ps.length)
    (hbody : ∀ (f : Addr) (A : Around) (outer : List Env) (s : Shared) (H : Hp) (vs : List V) (Q : VK) (E : XK), Room k (A.deeper (envOfC x (defScope st) s.heap.objs.size f (.ref c))) → sp vs H Q E →
      ∃ t, PSs (cxOf CX0 P w K mg base N x (defScope st) f (.ref c) A outer s H E).nox (defBody st) t ∧ t { nx := fun _ H' => Q .non H', rt := Q } (start N vs) H) : Kn P w K mg base (k + 1) x ps sp := by
  obtain ⟨f, fd, F, b, m, hc⟩ := D
  have kp := F.kp
  obtain ⟨oc, od, kV, doc, pm, an, cdv, ct, osl, rfl, lk, hcd⟩ := F.ex
  obtain rfl : cdv = .ref c := hc
  refine ⟨f, _, fn_of lk hcd S len fun A outer s H vs Q E hr hsp => ?_, b, m, kp⟩
  obtain ⟨t, h, q⟩ := hbody f A outer s H vs Q E hr hsp
  exact ⟨t, h.nox, q⟩
/-- x in 'k' -/
theorem elt_in {prog : Program} {w : World} {scope : Scope} {x k : Str} {j : Nat} {p1 p2 p3 : Pos} (hk : scope.kind = .function) (hl : scope.names.lookup x = some .local) (hd : (x == ("__debug__" : Str)) = false := by decide) :
    GxR.EltP prog w scope x (.Compare (.Name x p1) [.In] [.Constant (.str k) j p2] p3) (fun c => !(PySem.Builtin.Str.occurrences k ⟨#[c]⟩ 0 k.length 1).isEmpty) := by
  intro cenv A' E' c t s₂ m₂ hs hn hm
  refine wpAny_Compare1 ?_
  refine wpAny_Name (wpAny_loadName_local (by rw [hs]; exact hk) (show cenv.scope.names.lookup x = some .local by rw [hs]; exact hl) hn hm ?_) hd
  refine Calls.Constant_str ?_
  exact PySem.P.in_str ⟨rfl, GxR.keeps_tok _ _⟩
def digs : Str := "0123456789"
def inD (c : Nat) : Bool := !(PySem.Builtin.Str.occurrences digs ⟨#[c]⟩ 0 digs.length 1).isEmpty
theorem inD_of {c : Nat} (h : 48 ≤ c ∧ c ≤ 57) : inD c = true := by
  have e := SX.in_one (TL.tl digs) c
  rw [SX.S_tl] at e
  have e2 : inD c = decide (c ∈ TL.tl digs) := e
  rw [e2, decide_eq_true_eq]
  have e3 : TL.tl digs = [48, 49, 50, 51, 52, 53, 54, 55, 56, 57] := by decide +kernel
  rw [e3]
  simp only [List.mem_cons, List.not_mem_nil, or_false]
  omega
theorem sw_pre (a b : Str) : Txt.startswith a b = TL.pre (TL.tl b) (TL.tl a) := by
  unfold Txt.startswith
  rw [PySem.StrLaws.subAt_eq, List.drop_zero, TL.len_tl, TL.len_tl]
  unfold TL.pre
  rw [Bool.eq_iff_iff, Bool.and_eq_true, decide_eq_true_eq]
  constructor
  · exact fun h => h.2
  · intro h
    refine ⟨?_, h⟩
    have e := congrArg List.length (eq_of_beq h)
    rw [List.length_take] at e
    omega
theorem sw_app (a b : Str) : Txt.startswith (a ++ b) a = true := by
  rw [sw_pre, TL.tl_append]
  exact TL.pre_self _ _
def dgL (i : Int) : List Nat := TL.numL i.natAbs
theorem num_head (n : Nat) : TL.pre [45] (TL.numL n) = false := by
  cases h : TL.numL n with
  | nil => rfl
  | cons c r =>
    refine TL.pre_of_head _ _ fun e => ?_
    have := TL.numL_digits n c (by rw [h]; simp)
    omega
theorem tl_dash : TL.tl ("-":Str) = [45] := by decide +kernel
theorem sw_iTx (i : Int) : Txt.startswith (iTx i) "-" = decide (i < 0) := by
  rw [sw_pre, tl_iTx, tl_dash]
  unfold iL
  by_cases h : i < 0
  · rw [if_pos h, decide_eq_true h]
    exact TL.pre_self [45] _
  · rw [if_neg h, decide_eq_false h]
    exact num_head _
theorem iTx_S (i : Int) : iTx i = SX.S (iL i) := by rw [← tl_iTx, SX.S_tl]
theorem cut_iTx {i : Int} (h : i < 0) : Txt.slice (iTx i) (some 1) none = SX.S (dgL i) := by
  rw [iTx_S]
  unfold iL dgL
  rw [if_pos h]
  exact SX.from_app [45] (TL.numL i.natAbs) rfl
theorem iTx_pos {i : Int} (h : ¬ i < 0) : iTx i = SX.S (dgL i) := by
  rw [iTx_S]
  unfold iL dgL
  rw [if_neg h]
theorem kp_tabbed {P : Addr} {H H' : Hp} (h0 : GxR.TabG H P) (h : GxR.Tabbed P H H') : Kp (some P) H H' := by
  obtain ⟨⟨ps, hP, _⟩, same⟩ := h
  obtain ⟨qs, hQ, _⟩ := h0
  refine ⟨fun b o hb hn => ?_, fun a => ⟨fun xs ha => ?_, fun o u ha => ?_⟩, fun b hb => ?_⟩
  · rw [same b fun e => hn (by rw [e])]
    exact hb
  · rw [same a fun e => by rw [e, hQ] at ha; cases ha]
    exact ha
  · rw [same a fun e => by rw [e, hQ] at ha; cases ha]
    exact ha
  · have ne : b ≠ P := fun e => by rw [e, hP] at hb; cases hb
    rw [same b ne] at hb
    exact hb
theorem noFree {x : Str} {α : Type} {p : Str × NameKind → α → Prop} : ∀ y ∈ [((".0" : Str), NameKind.local), (x, NameKind.local)], y.2 = NameKind.free → ∃ c, p y c := by
  intro y hy e
  rcases List.mem_cons.mp hy with h | hy
  · rw [h] at e; cases e
  · rcases List.mem_cons.mp hy with h | hy
    · rw [h] at e; cases e
    · cases hy
def spNum (P : Addr) : Sp := fun vs H Q _ => ∃ (i : Int), vs = [.str (iTx i)] ∧ i.natAbs < 100000 ∧ GxR.TabG H P ∧ ∀ H', Kp (some P) H H' → GxR.TabG H' P → Q (.int i) H'
section
variable {P : Program} {w : World} {K : PySem.W.Frag} {mg : Str → Option Value} {base : Heap}
abbrev s_read_number : Stmt := top 31
abbrev N_read_number : List Str := ["text", "digits", "number"]
theorem sc_read_number : FnScope N_read_number ["text"] (defScope s_read_number) := ⟨rfl, rfl, rfl, by decide +kernel, rfl, by decide +kernel, by decide +kernel⟩
theorem ok_read_number (T : Bl mg) {c pt : Addr} (TB : GxR.TabB base mg c pt) (D : DfC K mg "read_number" s_read_number ["text"] c) : Kn P w K mg base 1 "read_number" ["text"] (spNum pt) := by
  refine D.ok sc_read_number (fun vs H Q E h => ?_) (fun f A outer s H vs Q E hr h => ?_)
  · obtain ⟨i, rfl, _⟩ := h
    rfl
  obtain ⟨i, rfl, hi, ht, q⟩ := h
  refine ⟨_, (pss_cons (ps_set (i := 1) sc_read_number.nd rfl (by first | exact Or.inl rfl | exact Or.inr rfl) (pe_ifExp (pt_val (pe_m1 PySem.F.slot_str_startswith PySem.F.type_str_startswith mt_startswith (pv 0) pe_str)) (pe_slice sl_str (pv 0) (po_some pe_int) po_none) (pv 0)))
    (pss_cons (ps_if (PW.pt (pw_or (pt_not (pt_chain op_le op_le pe_int (pe_callB call_len_str (by rfl) T.len (by decide +kernel) (pa_cons (pv 1) pa_nil)) pe_int)) (pw_or1 (pt_not (pt_val (GxR.pe_allS (pb := inD) hr rfl T.all (by decide +kernel) TB rfl ⟨rfl, rfl, by decide +kernel, rfl, rfl, noFree⟩ (pv 1) (elt_in rfl rfl) (fun _ => rfl))))))) (pss_one (ps_ret pe_non)) pss_nil)
    (pss_cons (ps_set (i := 2) sc_read_number.nd rfl (by first | exact Or.inl rfl | exact Or.inr rfl) (pe_ifExp (pt_val (pe_m1 PySem.F.slot_str_startswith PySem.F.type_str_startswith mt_startswith (pv 0) pe_str)) (pe_un un_neg (pe_callTy call_int_str (by rfl) T.int (by decide +kernel) (pa_cons (pv 1) pa_nil))) (pe_callTy call_int_str (by rfl) T.int (by decide +kernel) (pa_cons (pv 1) pa_nil))))
    (pss_cons (ps_if (pt_cmpR op_ne (pe_callTy call_str_int (by rfl) T.str (by decide +kernel) (pa_cons (pv 2) pa_nil)) (pv 0) (nomark _)) (pss_one (ps_ret pe_non)) pss_nil)
    (pss_one (ps_ret (pv 2))))))), ?_⟩
  have hlen : (SX.S (dgL i)).length ≤ 5 ∧ 1 ≤ (SX.S (dgL i)).length := by
    rw [SX.S_len]
    refine ⟨TL.numL_len (by decide) hi, ?_⟩
    have := List.length_pos_iff.mpr (TL.numL_ne i.natAbs)
    exact this
  have hall : (SX.S (dgL i)).cps.toList.all inD = true := by
    rw [List.all_eq_true]
    intro c hc
    exact inD_of (TL.numL_digits i.natAbs c hc)
  have hint : PySem.intText? (SX.S (dgL i)) = some ((i.natAbs : Nat) : Int) := by
    have e := SX.int_S (a := dgL i) (List.all_eq_true.mpr fun c hc => by
      have := TL.numL_digits i.natAbs c hc
      rw [Bool.and_eq_true, decide_eq_true_eq, decide_eq_true_eq]
      exact this) (TL.numL_ne _) (by have := hlen.1; rw [SX.S_len] at this; omega)
    rw [e]
    unfold dgL
    rw [TL.numL_val]
  have hz : (iTx i).length ≤ sizeLine := small_le (by have := iTx_len hi; omega)
  have hz2 : (SX.S (dgL i)).length ≤ sizeLine := small_le (by omega)
  refine ⟨_, rfl, ⟨_, rfl⟩, _, _, rfl, rfl, _, rfl, ?_⟩
  rw [sw_iTx]
  have h1 : decide ((1:Int) ≤ (((SX.S (dgL i)).length : Nat) : Int)) = true := decide_eq_true (by omega)
  have h2 : decide ((((SX.S (dgL i)).length : Nat) : Int) ≤ 5) = true := decide_eq_true (by omega)
  by_cases hneg : i < 0
  · rw [decide_eq_true hneg]
    refine ⟨_, rfl, 1, rfl, _, rfl, hz, ?_⟩
    rw [C8.cutS_slice, cut_iTx hneg]
    refine ⟨_, rfl, _, rfl, hz2, _, _, rfl, rfl, _, rfl, ?_⟩
    rw [h1]
    refine ⟨_, _, rfl, rfl, _, rfl, ?_⟩
    rw [h2]
    refine ⟨_, rfl, _, rfl, ht, fun H2 tb => ?_⟩
    have k := kp_tabbed ht tb
    refine ⟨_, rfl, ?_⟩
    rw [hall]
    refine ⟨_, rfl, ⟨_, rfl⟩, _, _, rfl, rfl, _, rfl, ?_⟩
    rw [sw_iTx, decide_eq_true hneg]
    refine ⟨_, rfl, _, _, rfl, hint, by omega, _, rfl, ?_⟩
    have e : (fun i : Int => V.int (-i)) ((i.natAbs : Nat) : Int) = V.int i := congrArg V.int (by omega)
    rw [e]
    refine ⟨_, rfl, _, rfl, log_int hi, _, rfl, rfl, _, rfl, ?_⟩
    refine ite2 (fun hx => ?_) (fun hx => ?_)
    · exact absurd hx (by rw [show V.str (Str.ofString (toString i)) = V.str (iTx i) from rfl]; simp)
    · exact ⟨_, rfl, q _ k tb.1⟩
  · rw [decide_eq_false hneg]
    refine ⟨_, rfl, ?_⟩
    rw [iTx_pos hneg]
    refine ⟨_, rfl, _, rfl, hz2, _, _, rfl, rfl, _, rfl, ?_⟩
    rw [h1]
    refine ⟨_, _, rfl, rfl, _, rfl, ?_⟩
    rw [h2]
    refine ⟨_, rfl, _, rfl, ht, fun H2 tb => ?_⟩
    have k := kp_tabbed ht tb
    refine ⟨_, rfl, ?_⟩
    rw [hall]
    refine ⟨_, rfl, ⟨_, rfl⟩, _, _, rfl, rfl, _, rfl, ?_⟩
    rw [← iTx_pos hneg, sw_iTx, decide_eq_false hneg]
    rw [iTx_pos hneg]
    refine ⟨_, rfl, _, _, rfl, hint, by omega, ?_⟩
    have e : ((i.natAbs : Nat) : Int) = i := by omega
    rw [e]
    refine ⟨_, rfl, _, rfl, log_int hi, _, rfl, rfl, _, rfl, ?_⟩
    refine ite2 (fun hx => ?_) (fun hx => ?_)
    · exact absurd hx (by rw [show V.str (Str.ofString (toString i)) = V.str (iTx i) from rfl, iTx_pos hneg]; simp)
    · exact ⟨_, rfl, q _ k tb.1⟩
end
end Cl

/-! Carryclaim: read_range. -/
namespace Cl
open PySem PySem.Spec PyProof.Rows L2
theorem TabG.keep {H H' : Hp} {pt : Addr} (k : Kp none H H') (h : GxR.TabG H pt) : GxR.TabG H' pt := by
  obtain ⟨ps, h1, h2⟩ := h
  exact ⟨ps, k.of h1, h2⟩
theorem iL_free {i : Int} {c : Nat} (h : c = 46 ∨ c = 47 ∨ c = 32 ∨ c = 10 ∨ c = 61) : c ∉ iL i := by
  unfold iL
  intro hm
  split at hm
  · rcases List.mem_cons.mp hm with e | hm
    · omega
    · exact TL.numL_free (by omega) hm
  · exact TL.numL_free (by omega) hm
theorem tl_dots : TL.tl ("..":Str) = 46 :: [46] := by decide +kernel
theorem tl_slash : TL.tl ("/":Str) = 47 :: [] := by decide +kernel
theorem rg_split {r : Rg} (h : ¬ r.st = 0) : rgTx r = iTx r.lo ++ ("..":Str) ++ (iTx r.hi ++ ("/":Str) ++ iTx r.st) := by
  unfold rgTx
  rw [if_neg h]
  refine TL.ext_tl ?_
  simp only [TL.tl_append, List.append_assoc]
  rfl
theorem part_lo0 (i : Int) : Txt.partition (iTx i) ("..":Str) = (iTx i, Str.empty, Str.empty) := TL.partition_none tl_dots (by rw [tl_iTx]; exact iL_free (.inl rfl))
theorem part_lo (i : Int) (b : Str) : Txt.partition (iTx i ++ ("..":Str) ++ b) ("..":Str) = (iTx i, ("..":Str), b) := TL.partition_app tl_dots (by rw [tl_iTx]; exact iL_free (.inl rfl))
theorem part_hi (i : Int) (b : Str) : Txt.partition (iTx i ++ ("/":Str) ++ b) ("/":Str) = (iTx i, ("/":Str), b) := TL.partition_app tl_slash (by rw [tl_iTx]; exact iL_free (.inr (.inl rfl)))
def spRange (K : PySem.W.Frag) (pt : Addr) : Sp := fun vs H Q _ => ∃ (r : Rg), vs = [.str (rgTx r)] ∧ RgOk r ∧ GxR.TabG H pt ∧ ∀ u H', Kp (some pt) H H' → GxR.TabG H' pt → Rp K H' u (encRg r) → Q u H'
section
variable {P : Program} {w : World} {K : PySem.W.Frag} {mg : Str → Option Value} {base : Heap}
abbrev s_read_range : Stmt := top 30
abbrev N_read_range : List Str := ["text", "low", "high", "step", "low_text", "dots", "rest", "high_text", "slash", "step_text"]
theorem sc_read_range : FnScope N_read_range ["text"] (defScope s_read_range) := ⟨rfl, rfl, rfl, by decide +kernel, rfl, by decide +kernel, by decide +kernel⟩
theorem ok_read_range (T : Bl mg) {pt : Addr} (D : Df K mg "read_range" s_read_range ["text"]) (G_read_number : Kn P w K mg base 1 "read_number" ["text"] (spNum pt)) : Kn P w K mg base 2 "read_range" ["text"] (spRange K pt) := by
  refine D.ok sc_read_range (fun vs H Q E h => ?_) (fun f cdv A outer s H vs Q E hr h => ?_)
  · obtain ⟨i, rfl, _⟩ := h
    rfl
  obtain ⟨r, rfl, ok, ht, q⟩ := h
  obtain ⟨tk, hL⟩ := T.LARGEST
  refine ⟨_, (pss_cons (ps_asg (pe_partition (pv 0) pe_str) (pg_tup rfl (pgs_cons (pg_name (i := 4) sc_read_range.nd rfl (by first | exact Or.inl rfl | exact Or.inr rfl)) (pgs_cons (pg_name (i := 5) sc_read_range.nd rfl (by first | exact Or.inl rfl | exact Or.inr rfl)) (pgs_cons (pg_name (i := 6) sc_read_range.nd rfl (by first | exact Or.inl rfl | exact Or.inr rfl)) pgs_nil)))))
    (pss_cons (ps_set (i := 1) sc_read_range.nd rfl (by first | exact Or.inl rfl | exact Or.inr rfl) (pe_kn G_read_number hr (pa_cons (pv 4) pa_nil)))
    (pss_cons (ps_if (PW.pt (pw_or (pt_cmpR op_isN (pv 1) pe_non (nomark _)) (pw_or1 (pt_not (pt_chain op_le op_le (pe_un un_neg (pe_glob (v := .int 10000) rfl hL ⟨_, rfl⟩)) (pv 1) (pe_glob (v := .int 10000) rfl hL ⟨_, rfl⟩)))))) (pss_one (ps_ret pe_non)) pss_nil)
    (pss_cons (ps_if (pt_cmpR op_eq (pv 5) pe_str (nomark _)) (pss_one (ps_ret (pe_tup (pa_cons (pv 1) (pa_cons (pv 1) (pa_cons pe_int pa_nil)))))) pss_nil)
    (pss_cons (ps_asg (pe_partition (pv 6) pe_str) (pg_tup rfl (pgs_cons (pg_name (i := 7) sc_read_range.nd rfl (by first | exact Or.inl rfl | exact Or.inr rfl)) (pgs_cons (pg_name (i := 8) sc_read_range.nd rfl (by first | exact Or.inl rfl | exact Or.inr rfl)) (pgs_cons (pg_name (i := 9) sc_read_range.nd rfl (by first | exact Or.inl rfl | exact Or.inr rfl)) pgs_nil)))))
    (pss_cons (ps_set (i := 2) sc_read_range.nd rfl (by first | exact Or.inl rfl | exact Or.inr rfl) (pe_kn G_read_number hr (pa_cons (pv 7) pa_nil)))
    (pss_cons (ps_set (i := 3) sc_read_range.nd rfl (by first | exact Or.inl rfl | exact Or.inr rfl) (pe_kn G_read_number hr (pa_cons (pv 9) pa_nil)))
    (pss_cons (ps_if (PW.pt (pw_or (pt_cmpR op_isN (pv 2) pe_non (nomark _)) (pw_or (pt_cmpR op_isN (pv 3) pe_non (nomark _)) (pw_or1 (pt_cmpR op_eq (pv 8) pe_str (nomark _)))))) (pss_one (ps_ret pe_non)) pss_nil)
    (pss_cons (ps_if (PW.pt (pw_or (pt_cmpR op_ge (pv 1) (pv 2) (nomark _)) (pw_or (pt_cmpR op_gt (pv 2) (pe_glob (v := .int 10000) rfl hL ⟨_, rfl⟩) (nomark _)) (pw_or (pt_cmpR op_lt (pv 3) pe_int (nomark _)) (pw_or1 (pt_cmpR op_ne (pe_op op_modN (pe_callTy call_int1 (by rfl) T.int (by decide +kernel) (pa_cons (pe_op op_sub (pv 2) (pv 1)) pa_nil)) (pv 3)) pe_int (nomark _))))))) (pss_one (ps_ret pe_non)) pss_nil)
    (pss_one (ps_ret (pe_tup (pa_cons (pv 1) (pa_cons (pv 2) (pa_cons (pv 3) pa_nil))))))))))))))), ?_⟩
  have h1 : decide ((-10000:Int) ≤ r.lo) = true := decide_eq_true ok.lo1
  have h2 : decide (r.lo ≤ (10000:Int)) = true := decide_eq_true ok.lo2
  have hz : (rgTx r).length ≤ sizeLine := small_le (by have := rgTx_len ok; omega)
  refine ⟨_, rfl, ⟨_, rfl⟩, _, _, rfl, rfl, by decide +kernel, hz, fun p hp => ?_⟩
  have k1 : ∀ u, Kp none H (upd H p u) := fun u => (Kp.refl _).new hp
  by_cases e0 : r.st = 0
  · have et : rgTx r = iTx r.lo := by unfold rgTx; rw [if_pos e0]
    rw [et, part_lo0]
    refine ⟨p, _, rfl, .inl (.inl upd_same), rfl, _, _, rfl, _, _, rfl, _, _, rfl, rfl, ?_⟩
    refine ⟨_, rfl, r.lo, rfl, ok.n1, TabG.keep (k1 _) ht, fun H2 k2 t2 => ?_⟩
    refine ⟨_, rfl, rfl, _, rfl, ?_⟩
    refine ⟨_, rfl, _, rfl, _, _, rfl, rfl, _, rfl, ?_⟩
    rw [h1]
    refine ⟨_, _, rfl, rfl, _, rfl, ?_⟩
    rw [h2]
    refine ⟨_, rfl, rfl, _, rfl, ?_⟩
    refine ⟨_, rfl, _, rfl, small_le (by simp), fun t htn => ?_⟩
    have k3 : Kp (some pt) H (upd H2 t (.tup [.int r.lo, .int r.lo, .int 0])) := ((k1 _).up.trans k2).new htn
    refine q _ _ k3 (TabG.keep ((Kp.refl _).new htn) t2) ?_
    rcases ok.sh with ⟨a, b⟩ | ⟨_, _, c, _⟩
    · unfold encRg
      rw [a, b]
      exact Rp.mk htn (.cons (.int _) (.cons (.int _) (.cons (.int _) .nil)))
    · omega
  · obtain ⟨a1, a2, a3, a4⟩ : r.lo < r.hi ∧ r.hi ≤ 10000 ∧ 1 ≤ r.st ∧ (r.hi - r.lo) % r.st = 0 := by
      rcases ok.sh with ⟨a, b⟩ | h
      · exact absurd a e0
      · exact h
    have hz2 : (iTx r.hi ++ ("/":Str) ++ iTx r.st).length ≤ sizeLine := small_le (by
      have b2 := iTx_len ok.n2
      have b3 := iTx_len ok.n3
      have d2 : ("/":Str).length = 1 := by decide +kernel
      simp only [ln_app, d2]
      omega)
    rw [rg_split e0, part_lo]
    refine ⟨p, _, rfl, .inl (.inl upd_same), rfl, _, _, rfl, _, _, rfl, _, _, rfl, rfl, ?_⟩
    refine ⟨_, rfl, r.lo, rfl, ok.n1, TabG.keep (k1 _) ht, fun H2 k2 t2 => ?_⟩
    refine ⟨_, rfl, rfl, _, rfl, ?_⟩
    refine ⟨_, rfl, _, rfl, _, _, rfl, rfl, _, rfl, ?_⟩
    rw [h1]
    refine ⟨_, _, rfl, rfl, _, rfl, ?_⟩
    rw [h2]
    refine ⟨_, rfl, rfl, _, rfl, ?_⟩
    refine ⟨_, rfl, ⟨_, rfl⟩, _, _, rfl, rfl, by decide +kernel, hz2, fun p2 hp2 => ?_⟩
    rw [part_hi]
    have k3 : ∀ u, Kp none H2 (upd H2 p2 u) := fun u => (Kp.refl _).new hp2
    refine ⟨p2, _, rfl, .inl (.inl upd_same), rfl, _, _, rfl, _, _, rfl, _, _, rfl, rfl, ?_⟩
    refine ⟨_, rfl, r.hi, rfl, ok.n2, TabG.keep (k3 _) t2, fun H3 k4 t3 => ?_⟩
    refine ⟨_, rfl, r.st, rfl, ok.n3, t3, fun H4 k5 t4 => ?_⟩
    have kk : Kp (some pt) H H4 := ((k1 _).up.trans k2).trans (((k3 _).up.trans k4).trans k5)
    refine ⟨_, rfl, rfl, _, rfl, ?_⟩
    refine ⟨_, rfl, rfl, _, rfl, ?_⟩
    refine ⟨_, rfl, rfl, _, rfl, ?_⟩
    refine ⟨_, rfl, _, rfl, _, _, rfl, rfl, _, rfl, ?_⟩
    rw [show decide (r.hi ≤ r.lo) = false from decide_eq_false (by omega)]
    refine ⟨_, rfl, _, _, rfl, rfl, _, rfl, ?_⟩
    rw [show decide ((10000:Int) < r.hi) = false from decide_eq_false (by omega)]
    refine ⟨_, rfl, _, _, rfl, rfl, _, rfl, ?_⟩
    rw [show decide (r.st < (1:Int)) = false from decide_eq_false (by omega)]
    refine ⟨_, rfl, _, rfl, _, _, rfl, rfl, .inl ⟨_, rfl, ?_⟩⟩
    refine ⟨_, rfl, _, _, rfl, rfl, by omega, ?_⟩
    have em : (fun i j : Int => V.int (i.fmod j)) (r.hi - r.lo) r.st = V.int 0 := congrArg V.int (by
      rw [Int.fmod_eq_emod_of_nonneg _ (by omega)]
      exact a4)
    rw [em]
    refine ⟨rfl, _, rfl, ?_⟩
    refine ⟨_, rfl, _, rfl, _, rfl, small_le (by simp), fun t htn => ?_⟩
    exact q _ _ (kk.new htn) (TabG.keep ((Kp.refl _).new htn) t4) (Rp.mk htn (.cons (.int _) (.cons (.int _) (.cons (.int _) .nil))))
end
end Cl

/-! Carryclaim: read_state. -/
namespace Cl
open PySem PySem.Spec PyProof.Rows L2
theorem ne_tab {H : Hp} {o pt : Addr} {xs : List V} (h : H o = some (.lst xs)) (t : GxR.TabG H pt) : some o ≠ some pt := by
  obtain ⟨ps, h2, _⟩ := t
  intro e
  cases e
  rw [h] at h2
  cases h2
theorem cutV_tail (x : V) (ws : List V) : cutV (x :: ws) (some 1) none = ws := by
  unfold cutV
  have h1 : HT.sIx (x :: ws).length 0 (some 1) = 1 := by
    unfold HT.sIx
    simp
  have h2 : HT.sIx (x :: ws).length (x :: ws).length none = (x :: ws).length := by
    unfold HT.sIx
    simp
  rw [h1, h2]
  simp
/-- an entry without the blank -/
def ptTx (e : Ent) : Str := e.1 ++ ("=":Str) ++ rgTx e.2
theorem tl_sp : TL.tl (" ":Str) = 32 :: [] := by decide +kernel
theorem tl_eq1 : TL.tl ("=":Str) = [61] := by decide +kernel
theorem tl_empty : TL.tl Str.empty = [] := rfl
theorem tl_enTx (e : Ent) : TL.tl (enTx e) = 32 :: TL.tl (ptTx e) := by
  unfold enTx ptTx
  simp only [TL.tl_append, tl_sp, tl_empty, List.nil_append, List.append_assoc, List.cons_append]
theorem joinL_sp : ∀ (p : List Nat) (ps : List (List Nat)), TL.joinL [32] (p :: ps) = p ++ (ps.map fun q => 32 :: q).flatten
  | p, [] => by simp [TL.joinL]
  | p, q :: r => by
    have ih := joinL_sp q r
    show p ++ ([32] ++ TL.joinL [32] (q :: r)) = _
    rw [ih]
    simp
theorem stTx_join (l : List Ent) : stTx (some l) = Txt.join " " (("" : Str) :: l.map ptTx) := by
  refine TL.ext_tl ?_
  show TL.tl (Txt.join "" (l.map enTx)) = _
  rw [tl_join0, TL.join_eq, TL.tl_join, tl_sp, List.map_cons, joinL_sp, tl_nil, List.nil_append, List.map_map, List.map_map, List.map_map]
  congr 1
  exact List.map_congr_left fun e _ => tl_enTx e
theorem NM_free : ∀ x ∈ NM, 32 ∉ TL.tl x ∧ 61 ∉ TL.tl x ∧ 10 ∉ TL.tl x := by decide +kernel
theorem rgTx_free {r : Rg} {c : Nat} (h : c = 32 ∨ c = 10 ∨ c = 61) : c ∉ TL.tl (rgTx r) := by
  have d1 : TL.tl ("..":Str) = [46, 46] := by decide +kernel
  have d2 : TL.tl ("/":Str) = [47] := by decide +kernel
  have f : ∀ i, c ∉ iL i := fun i => iL_free (by omega)
  unfold rgTx
  split
  · rw [tl_iTx]; exact f _
  · simp only [TL.tl_append, tl_empty, tl_iTx, d1, d2, List.mem_append, List.mem_cons, List.not_mem_nil, or_false, List.nil_append]
    rintro ((((h1 | h1) | h1) | h1) | h1)
    · exact f _ h1
    · omega
    · exact f _ h1
    · omega
    · exact f _ h1
theorem ptTx_free {e : Ent} (h : e.1 ∈ NM) : 32 ∉ TL.tl (ptTx e) ∧ 10 ∉ TL.tl (ptTx e) := by
  obtain ⟨a, b, c⟩ := NM_free _ h
  unfold ptTx
  simp only [TL.tl_append, tl_eq1, List.mem_append, List.mem_cons, List.not_mem_nil, or_false]
  constructor
  · rintro ((h1 | h1) | h1)
    · exact a h1
    · omega
    · exact rgTx_free (.inl rfl) h1
  · rintro ((h1 | h1) | h1)
    · exact c h1
    · omega
    · exact rgTx_free (.inr (.inl rfl)) h1
theorem split_st {l : List Ent} (h : ∀ e ∈ l, e.1 ∈ NM) : Txt.split (stTx (some l)) " " = ("" : Str) :: l.map ptTx := by
  rw [stTx_join]
  refine TL.split_join tl_sp (by decide +kernel) (by simp) fun p hp => ?_
  rcases List.mem_cons.mp hp with rfl | hp
  · rw [tl_nil]; simp
  · obtain ⟨e, he, rfl⟩ := List.mem_map.mp hp
    exact (ptTx_free (h e he)).1
theorem stTx_ne {l : List Ent} : stTx (some l) ≠ (" never" : Str) := by
  intro e
  cases l with
  | nil => exact absurd (show (stTx (some [])) = (" never" : Str) from e) (by decide +kernel)
  | cons x l =>
    have h : 61 ∈ TL.tl (stTx (some (x :: l))) := by
      show 61 ∈ TL.tl (Txt.join "" ((x :: l).map enTx))
      rw [tl_join0, List.map_cons, List.map_cons, List.flatten_cons]
      refine List.mem_append_left _ ?_
      rw [tl_enTx]
      refine List.mem_cons_of_mem _ ?_
      unfold ptTx
      simp [TL.tl_append, tl_eq1]
    rw [e] at h
    exact absurd h (by decide +kernel)
theorem ptTx_sw (e : Ent) : Txt.startswith (ptTx e) (e.1 ++ ("=":Str)) = true := sw_app _ _
theorem ptTx_cut (e : Ent) : Txt.slice (ptTx e) (some (((e.1 ++ ("=":Str)).length : Nat) : Int)) none = rgTx e.2 := by
  have h := SX.from_app (TL.tl (e.1 ++ ("=":Str))) (TL.tl (rgTx e.2)) (i := (((e.1 ++ ("=":Str)).length : Nat) : Int)) (by rw [← TL.len_tl])
  rw [← SX.S_cat, SX.S_tl, SX.S_tl] at h
  exact h
theorem ptTx_len {e : Ent} (h1 : e.1 ∈ NM) (h : RgOk e.2) : (ptTx e).length ≤ 30 ∧ (e.1 ++ ("=":Str)).length ≤ 7 := by
  have a := rgTx_len h
  have b := NM_len6 _ h1
  have d2 : ("=":Str).length = 1 := by decide +kernel
  unfold ptTx
  simp only [ln_app, d2]
  omega
def spRdSt (K : PySem.W.Frag) (pt : Addr) : Sp := fun vs H Q _ => ∃ (v : V) (nm pl : Str) (st : Ste) (line : Int) (g : Pg) (p : Pr), vs = [v, .str nm, .str pl, .str (stTx st), .int line] ∧ Rp K H v (encPg g) ∧ WfPg g ∧ findPr g nm = some p ∧ StOk st ∧
  (∀ l, st = some l → l.map (·.1) = stNames g p pl) ∧ GxR.TabG H pt ∧ ∀ u H', Kp (some pt) H H' → GxR.TabG H' pt → Rp K H' u (encSt st) → Q u H'
section
variable {P : Program} {w : World} {K : PySem.W.Frag} {mg : Str → Option Value} {base : Heap}
abbrev s_read_state : Stmt := top 29
abbrev N_read_state : List Str := ["program", "procedure", "place", "text", "line", "names", "parts", "state", "name", "part", "start", "found"]
theorem sc_read_state : FnScope N_read_state ["program", "procedure", "place", "text", "line"] (defScope s_read_state) := ⟨rfl, rfl, rfl, by decide +kernel, rfl, by decide +kernel, by decide +kernel⟩
theorem ok_read_state (T : Bl mg) {pt : Addr} (D : Df K mg "read_state" s_read_state ["program", "procedure", "place", "text", "line"]) (G_state_names : Kn P w K mg base 9 "state_names" ["program", "procedure", "place"] (spStNames K))
    (G_read_range : Kn P w K mg base 2 "read_range" ["text"] (spRange K pt)) : Kn P w K mg base 10 "read_state" ["program", "procedure", "place", "text", "line"] (spRdSt K pt) := by
  refine D.ok sc_read_state (fun vs H Q E h => ?_) (fun f cdv A outer s H vs Q E hr h => ?_)
  · obtain ⟨v, nm, pl, st, line, g, p, rfl, _⟩ := h
    rfl
  obtain ⟨v, nm, pl, st, line, g, p, rfl, hv, wf, hf, ok, hn, ht, q⟩ := h
  refine ⟨_, (pss_cons (ps_if (pt_cmpR op_eq (pv 3) pe_str (nomark _)) (pss_one (ps_ret pe_non)) pss_nil)
    (pss_cons (ps_set (i := 5) sc_read_state.nd rfl (by first | exact Or.inl rfl | exact Or.inr rfl) (pe_kn G_state_names hr (pa_cons (pv 0) (pa_cons (pv 1) (pa_cons (pv 2) pa_nil)))))
    (pss_cons (ps_set (i := 6) sc_read_state.nd rfl (by first | exact Or.inl rfl | exact Or.inr rfl) (pe_split (pv 3) pe_str))
    (pss_cons (ps_if (PW.pt (pw_or (pt_cmpR op_ne (pe_ix ix_list (pv 6) pe_int (fun _ _ => rfl)) pe_str (nomark _)) (pw_or1 (pt_cmpR op_ne (pe_callB call_len_seq (by rfl) T.len (by decide +kernel) (pa_cons (pv 6) pa_nil)) (pe_op op_add (pe_callB call_len_seq (by rfl) T.len (by decide +kernel) (pa_cons (pv 5) pa_nil)) pe_int) (nomark _))))) (pss_one ps_never) pss_nil)
    (pss_cons (ps_set (i := 7) sc_read_state.nd rfl (by first | exact Or.inl rfl | exact Or.inr rfl) (pe_lst pa_nil))
    (pss_cons (ps_for PassesOwn.never rfl (pi_zipTL (by rfl) T.zip (pa_cons (pv 5) (pa_cons (pe_slice sl_list (pv 6) (po_some pe_int) po_none) pa_nil))) (pg_tup rfl (pgs_cons (pg_name (i := 8) sc_read_state.nd rfl (by first | exact Or.inl rfl | exact Or.inr rfl)) (pgs_cons (pg_name (i := 9) sc_read_state.nd rfl (by first | exact Or.inl rfl | exact Or.inr rfl)) pgs_nil))) (pss_cons (ps_set (i := 10) sc_read_state.nd rfl (by first | exact Or.inl rfl | exact Or.inr rfl) (pe_op op_add_str (pv 8) pe_str))
      (pss_cons (ps_set (i := 11) sc_read_state.nd rfl (by first | exact Or.inl rfl | exact Or.inr rfl) (pe_ifExp (pt_val (pe_m1 PySem.F.slot_str_startswith PySem.F.type_str_startswith mt_startswith (pv 9) (pv 10))) (pe_kn G_read_range hr (pa_cons (pe_slice sl_str (pv 9) (po_some (pe_callB call_len_str (by rfl) T.len (by decide +kernel) (pa_cons (pv 10) pa_nil))) po_none) pa_nil)) pe_non))
      (pss_cons (ps_if (pt_cmpR op_isN (pv 11) pe_non (nomark _)) (pss_one ps_never) pss_nil)
      (pss_one (ps_expr (pe_bm PySem.F.plainAttrs_list PySem.F.slot_list_append PySem.F.type_list_append mt_append (pv 7) (pa_cons (pe_tup (pa_cons (pv 8) (pa_cons (pv 11) pa_nil))) pa_nil))))))))
    (pss_one (ps_ret (pe_callTy call_tuple_of (by rfl) T.tuple (by decide +kernel) (pa_cons (pv 7) pa_nil)))))))))), ?_⟩
  refine ⟨_, rfl, rfl, _, rfl, ?_⟩
  cases st with
  | none =>
    refine ite2 (fun hx => ?_) (fun hx => ?_)
    · exact q _ _ (Kp.refl _) ht .non
    · exact absurd (show decide (V.str (stTx none) = V.str (" never":Str)) = true from decide_eq_true rfl) hx
  | some l =>
    refine ite2 (fun hx => ?_) (fun hx => ?_)
    · exact absurd (by simpa using hx) (stTx_ne (l := l))
    have en := hn l rfl
    have hent := ok.ent l rfl
    have hll := ok.len l rfl
    have hzs : (stTx (some l)).length + 2 ≤ sizeLine := small_le (by have := stTx_len ok; omega)
    refine ⟨_, rfl, _, rfl, _, rfl, v, nm, pl, g, p, rfl, hv, wf, hf, fun u H1 k1 r1 => ?_⟩
    refine ⟨_, rfl, ⟨_, rfl⟩, _, _, rfl, rfl, by decide +kernel, hzs, fun pp hpp => ?_⟩
    rw [split_st fun e he => (hent e he).1]
    have k2 : Kp none H1 (upd H1 pp (.lst ((("" : Str) :: l.map ptTx).map V.str))) := (Kp.refl _).new hpp
    have r2 := r1.mono k2.tle
    rw [← en] at r2
    obtain ⟨an, wn, rfl, hna, rn⟩ := r2.tup_inv
    rw [rn.strs_eq] at hna
    refine ⟨_, rfl, _, _, _, _, rfl, rfl, .inl (.inl upd_same), at0, rfl, _, rfl, ?_⟩
    refine ⟨_, rfl, _, _, rfl, .inl (.inl (.inl upd_same)), _, rfl, _, _, rfl, .inr hna, _, _, rfl, rfl, ?_⟩
    rw [show ((((("" : Str) :: l.map ptTx).map V.str).length : Nat) : Int) = ((((l.map (·.1)).map V.str).length : Nat) : Int) + 1 by simp]
    refine ⟨rfl, _, rfl, ?_⟩
    refine ite2 (fun hx => ?_) (fun _ => ?_)
    · exact absurd hx (by simp)
    refine ⟨Nat.zero_le _, fun o ho => ?_⟩
    have k3 := k2.new (o := .lst []) ho
    have hp3 : (upd (upd H1 pp (.lst ((("" : Str) :: l.map ptTx).map V.str))) o (.lst [])) pp = some (.lst ((("" : Str) :: l.map ptTx).map V.str)) := (((Kp.refl _).new (m := none) ho)).of upd_same
    refine ⟨_, rfl, _, rfl, 1, rfl, pp, _, rfl, .inl (.inl hp3), fun pb hpb => ?_⟩
    rw [List.map_cons, cutV_tail]
    have k4 := k3.new (o := .lst ((l.map ptTx).map V.str)) hpb
    have t4 := k4.tle
    have ht4 : GxR.TabG (upd (upd (upd H1 pp (.lst ((("" : Str) :: l.map ptTx).map V.str))) o (.lst [])) pb (.lst ((l.map ptTx).map V.str))) pt := TabG.keep (k1.trans k4) ht
    have ho4 : (upd (upd (upd H1 pp (.lst ((("" : Str) :: l.map ptTx).map V.str))) o (.lst [])) pb (.lst ((l.map ptTx).map V.str))) o = some (.lst []) := (((Kp.refl _).new (m := none) hpb)).of upd_same
    have nb : some pb ≠ some pt := ne_tab upd_same ht4
    have no : some o ≠ some pt := ne_tab ho4 ht4
    have oH : H o = none := (k1.trans k2).dom _ ho
    have hna4 : SqT K (upd (upd (upd H1 pp (.lst ((("" : Str) :: l.map ptTx).map V.str))) o (.lst [])) pb (.lst ((l.map ptTx).map V.str))) an ((l.map (·.1)).map V.str) := (TLe.new hpb).seqT ((TLe.new ho).seqT hna)
    have nob : pb ≠ o := fun h => by rw [h, upd_same] at hpb; cases hpb
    refine ⟨an, pb, _, _, rfl, hna4, .inl (.inl upd_same), for_zt (fun e : Ent => V.str e.1) (fun e => V.str (ptTx e)) l hna4 (by rw [List.map_map]; rfl) (by rw [List.map_map]; rfl)
      (fun l' σ' H' => (∃ y z u2 u3, σ' = [some v, some (.str nm), some (.str pl), some (.str (stTx (some l))), some (.int line), some (.ref an), some (.ref pp), some (.ref o), y, z, u2, u3]) ∧
        Kp (some pt) H H' ∧ TLe (upd (upd (upd H1 pp (.lst ((("" : Str) :: l.map ptTx).map V.str))) o (.lst [])) pb (.lst ((l.map ptTx).map V.str))) H' ∧ H' pb = some (.lst ((l.map ptTx).map V.str)) ∧ GxR.TabG H' pt ∧ Ls K H' o (l'.map encEn))
      ⟨⟨_, _, _, _, rfl⟩, (k1.trans k4).up, TLe.refl _, upd_same, ht4, [], ho4, .nil⟩ (fun l' σ' H' z => ⟨z.2.2.1, .inl (.inl z.2.2.2.1)⟩) ?_ ?_⟩
    · rintro pre e post T1 σ' H' el ⟨⟨z1, z2, z3, z4, rfl⟩, k5, t5, hb5, tt5, vs5, ho5, ro5⟩ hT1
      have he : e ∈ l := by rw [el]; simp
      obtain ⟨p1, p2⟩ := hent e he
      obtain ⟨l1, l2⟩ := ptTx_len p1 p2
      have hln : pre.length < l.length := by rw [el]; simp
      have hvl := ro5.len
      rw [List.length_map] at hvl
      refine ⟨T1, _, rfl, .inl (.inl upd_same), rfl, _, _, rfl, _, _, rfl, rfl, ?_⟩
      have k6 : Kp none H' (upd H' T1 (.tup [.str e.1, .str (ptTx e)])) := (Kp.refl _).new hT1
      refine ⟨_, rfl, _, _, rfl, rfl, small_le (by have d2 : ("=":Str).length = 1 := by decide +kernel
                                                   rw [ln_app] at l2
                                                   omega), ?_⟩
      refine ⟨_, rfl, ⟨_, rfl⟩, _, rfl, _, _, rfl, rfl, _, rfl, ?_⟩
      rw [ptTx_sw]
      refine ⟨_, rfl, _, rfl, _, rfl, small_le (by omega), _, rfl, _, rfl, small_le (by omega), ?_⟩
      rw [C8.cutS_slice, ptTx_cut]
      refine ⟨e.2, rfl, p2, TabG.keep k6 tt5, fun u H7 k7 t7 r7 => ?_⟩
      have hu : ∃ b, u = .ref b := by
        obtain ⟨b, _, h, _⟩ := r7.tup_inv
        exact ⟨b, h⟩
      obtain ⟨b, rfl⟩ := hu
      refine ⟨_, rfl, rfl, _, rfl, ?_⟩
      have ho7 := k7.of (k6.of ho5) no
      refine ⟨_, rfl, .inl ⟨rfl, _, .inl (.inl ho7)⟩, _, rfl, _, rfl, small_le (by simp), fun T2 hT2 => ?_⟩
      have k8 : Kp none H7 (upd H7 T2 (.tup [.str e.1, .ref b])) := (Kp.refl _).new hT2
      have ho8 := k8.of ho7
      have k9 := k6.up.trans (k7.trans k8.up)
      have rT : Rp K (upd H7 T2 (.tup [.str e.1, .ref b])) (.ref T2) (encEn e) := Rp.mk hT2 (.cons (.str _) (.cons r7 .nil))
      refine ⟨o, vs5, _, rfl, rfl, ho8, small_lt (by omega), ?_⟩
      refine ⟨⟨_, _, _, _, rfl⟩, (k5.trans k9).put oH, (t5.trans k9.tle).trans (TLe.put ho8), ?_, ?_, vs5 ++ [.ref T2], upd_same, ?_⟩
      · rw [upd_ne nob]
        exact k9.of hb5 nb
      · obtain ⟨ps, g1, g2⟩ := TabG.keep k8 t7
        refine ⟨ps, ?_, g2⟩
        rw [upd_ne (fun h => no (by rw [h]))]
        exact g1
      · rw [List.map_append]
        exact ((ro5.mono k9.tle).snoc rT).mono (TLe.put ho8)
    · rintro σ' H' ⟨⟨z1, z2, z3, z4, rfl⟩, k5, t5, hb5, tt5, vs5, ho5, ro5⟩
      refine ⟨_, rfl, o, vs5, rfl, .inl ⟨.inl (.inl ho5), fun t htn => ?_⟩⟩
      exact q _ _ (k5.new htn) (TabG.keep ((Kp.refl _).new htn) tt5) (Rp.mk htn ro5)
end
end Cl

/-! Carryclaim: read_paper. -/
namespace Cl
open PySem PySem.Spec PyProof.Rows L2
def lnTx (r : Row) : Str := (r.nm ++ (" ":Str) ++ r.pl) ++ stTx r.st
theorem tl_nl : TL.tl ("\n":Str) = 10 :: [] := by decide +kernel
theorem tl_rwTx (r : Row) : TL.tl (rwTx r) = TL.tl (lnTx r) ++ [10] := by
  unfold rwTx lnTx
  simp only [TL.tl_append, tl_empty, tl_nl, List.nil_append, List.append_assoc]
theorem joinL_nl : ∀ ps : List (List Nat), TL.joinL [10] (ps ++ [[]]) = (ps.map fun q => q ++ [10]).flatten
  | [] => rfl
  | [p] => by simp [TL.joinL]
  | p :: q :: r => by
    have ih := joinL_nl (q :: r)
    show p ++ ([10] ++ TL.joinL [10] (q :: r ++ [[]])) = _
    rw [ih]
    simp
theorem ppTx_join (rs : List Row) : ppTx rs = Txt.join "\n" (rs.map lnTx ++ [("" : Str)]) := by
  refine TL.ext_tl ?_
  show TL.tl (Txt.join "" (rs.map rwTx)) = _
  rw [tl_join0, TL.join_eq, TL.tl_join, tl_nl, List.map_append, List.map_cons, List.map_nil, tl_nil, joinL_nl, List.map_map, List.map_map, List.map_map]
  congr 1
  exact List.map_congr_left fun r _ => tl_rwTx r
theorem PN_free : ∀ x ∈ PN, 10 ∉ TL.tl x := by decide +kernel
theorem stTx_nl {s : Ste} (h : StOk s) : 10 ∉ TL.tl (stTx s) := by
  cases s with
  | none => exact (by decide +kernel : 10 ∉ TL.tl (" never" : Str))
  | some l =>
    show 10 ∉ TL.tl (Txt.join "" (l.map enTx))
    rw [tl_join0, List.mem_flatten]
    rintro ⟨x, hx, hc⟩
    obtain ⟨y, hy, rfl⟩ := List.mem_map.mp hx
    obtain ⟨e, he, rfl⟩ := List.mem_map.mp hy
    rw [tl_enTx] at hc
    rcases List.mem_cons.mp hc with h1 | h1
    · omega
    · exact (ptTx_free (h.ent l rfl e he).1).2 h1
theorem lnTx_nl {r : Row} (h : RowOk r) (h2 : 10 ∉ TL.tl r.pl) : 10 ∉ TL.tl (lnTx r) := by
  unfold lnTx
  simp only [TL.tl_append, tl_sp, List.mem_append, List.mem_cons, List.not_mem_nil, or_false]
  rintro (((h1 | h1) | h1) | h1)
  · exact PN_free _ h.nm h1
  · omega
  · exact h2 h1
  · exact stTx_nl h.st h1
theorem split_pp {rs : List Row} (h : ∀ r ∈ rs, RowOk r ∧ 10 ∉ TL.tl r.pl) : Txt.split (ppTx rs) "\n" = rs.map lnTx ++ [("" : Str)] := by
  rw [ppTx_join]
  refine TL.split_join tl_nl (by decide +kernel) (by simp) fun p hp => ?_
  rcases List.mem_append.mp hp with hp | hp
  · obtain ⟨r, hr, rfl⟩ := List.mem_map.mp hp
    exact lnTx_nl (h r hr).1 (h r hr).2
  · rw [List.mem_singleton.mp hp, tl_nil]; simp
theorem lnTx_sw (r : Row) : Txt.startswith (lnTx r) (r.nm ++ (" ":Str) ++ r.pl) = true := sw_app _ _
theorem lnTx_cut (r : Row) : Txt.slice (lnTx r) (some (((r.nm ++ (" ":Str) ++ r.pl).length : Nat) : Int)) none = stTx r.st := by
  have h := SX.from_app (TL.tl (r.nm ++ (" ":Str) ++ r.pl)) (TL.tl (stTx r.st)) (i := (((r.nm ++ (" ":Str) ++ r.pl).length : Nat) : Int)) (by rw [← TL.len_tl])
  rw [← SX.S_cat, SX.S_tl, SX.S_tl] at h
  exact h
theorem lnTx_len {r : Row} (h : RowOk r) : (lnTx r).length ≤ 700 ∧ (r.nm ++ (" ":Str) ++ r.pl).length ≤ 700 ∧ r.nm.length + (" ":Str).length ≤ 700 ∧ (r.nm ++ (" ":Str)).length + r.pl.length ≤ 700 := by
  have a := stTx_len h.st
  have b := PN_len6 _ h.nm
  have c := h.pl
  have d1 : (" ":Str).length = 1 := by decide +kernel
  unfold lnTx
  simp only [ln_app, d1]
  omega
theorem ppTx_len {rs : List Row} (h : ∀ r ∈ rs, RowOk r) : (ppTx rs).length ≤ rs.length * 700 := by
  unfold ppTx
  rw [join0_len]
  have h3 : ((rs.map rwTx).map (·.length)).sum ≤ (rs.map rwTx).length * 700 := sum_le fun x hx => by
    obtain ⟨e, he, rfl⟩ := List.mem_map.mp hx
    exact rwTx_len (h e he)
  rw [List.length_map] at h3
  exact h3
def encK (r : Row) : PyData := .tuple [.str r.nm, .str r.pl]
theorem PrA.rpa {K : PySem.W.Frag} {H : Hp} : ∀ {vs : List V} {rs : List Row}, PrA H vs (rs.map fun r => (r.nm, r.pl)) → RpA K H vs (rs.map encK)
  | _, [], .nil => .nil
  | _, r :: rs, h => by
    rw [List.map_cons] at h
    cases h with
    | cons hb t => exact .cons (.tup (.inl (.inl hb)) (.cons (.str _) (.cons (.str _) .nil))) (PrA.rpa t)
def spRead (K : PySem.W.Frag) (pt : Addr) : Sp := fun vs H Q _ => ∃ (v : V) (g : Pg) (rs : List Row), vs = [v, .str (ppTx rs)] ∧ Rp K H v (encPg g) ∧ WfPg g ∧ (rs.map fun r => (r.nm, r.pl)) = prows g.prs ∧ (∀ r ∈ rs, RowOk r ∧ 10 ∉ TL.tl r.pl) ∧
  (∀ r ∈ rs, ∀ p l, findPr g r.nm = some p → r.st = some l → l.map (·.1) = stNames g p r.pl) ∧ GxR.TabG H pt ∧ ∀ u H', Kp (some pt) H H' → GxR.TabG H' pt → Rp K H' u (encPap rs) → Q u H'
section
variable {P : Program} {w : World} {K : PySem.W.Frag} {mg : Str → Option Value} {base : Heap}
abbrev s_read_paper : Stmt := top 28
abbrev N_read_paper : List Str := ["program", "text", "lines", "last", "wanted", "paper", "at", "start", "rest", "procedure", "place"]
theorem sc_read_paper : FnScope N_read_paper ["program", "text"] (defScope s_read_paper) := ⟨rfl, rfl, rfl, by decide +kernel, rfl, by decide +kernel, by decide +kernel⟩
theorem ok_read_paper (T : Bl mg) {pt : Addr} (D : Df K mg "read_paper" s_read_paper ["program", "text"]) (G_all_places : Kn P w K mg base 7 "all_places" ["program"] (spAllPl K))
    (G_read_state : Kn P w K mg base 10 "read_state" ["program", "procedure", "place", "text", "line"] (spRdSt K pt)) : Kn P w K mg base 11 "read_paper" ["program", "text"] (spRead K pt) := by
  refine D.ok sc_read_paper (fun vs H Q E h => ?_) (fun f cdv A outer s H vs Q E hr h => ?_)
  · obtain ⟨v, g, rs, rfl, _⟩ := h
    rfl
  obtain ⟨v, g, rs, rfl, hv, wf, ek, ok, hn, ht, q⟩ := h
  refine ⟨_, (pss_cons (ps_set (i := 2) sc_read_paper.nd rfl (by first | exact Or.inl rfl | exact Or.inr rfl) (pe_split (pv 1) pe_str))
    (pss_cons (ps_set (i := 3) sc_read_paper.nd rfl (by first | exact Or.inl rfl | exact Or.inr rfl) (pe_bm0 PySem.F.plainAttrs_list PySem.F.slot_list_pop PySem.F.type_list_pop mt_pop (pv 2)))
    (pss_cons (ps_set (i := 4) sc_read_paper.nd rfl (by first | exact Or.inl rfl | exact Or.inr rfl) (pe_kn G_all_places hr (pa_cons (pv 0) pa_nil)))
    (pss_cons (ps_set (i := 5) sc_read_paper.nd rfl (by first | exact Or.inl rfl | exact Or.inr rfl) (pe_lst pa_nil))
    (pss_cons (ps_for PassesOwn.never rfl (pi_enum (by rfl) T.enumerate (pa_cons (pv 4) pa_nil)) (pg_tup rfl (pgs_cons (pg_name (i := 6) sc_read_paper.nd rfl (by first | exact Or.inl rfl | exact Or.inr rfl)) (pgs_cons (pg_tup rfl (pgs_cons (pg_name (i := 9) sc_read_paper.nd rfl (by first | exact Or.inl rfl | exact Or.inr rfl)) (pgs_cons (pg_name (i := 10) sc_read_paper.nd rfl (by first | exact Or.inl rfl | exact Or.inr rfl)) pgs_nil))) pgs_nil))) (pss_cons (ps_if (pt_cmpR op_ge (pv 6) (pe_callB call_len_seq (by rfl) T.len (by decide +kernel) (pa_cons (pv 2) pa_nil)) (nomark _)) (pss_one ps_never) pss_nil)
      (pss_cons (ps_set (i := 7) sc_read_paper.nd rfl (by first | exact Or.inl rfl | exact Or.inr rfl) (pe_op op_add_str (pe_op op_add_str (pv 9) pe_str) (pv 10)))
      (pss_cons (ps_if (pt_not (pt_val (pe_m1 PySem.F.slot_str_startswith PySem.F.type_str_startswith mt_startswith (pe_ix ix_list (pv 2) (pv 6) (fun _ _ => rfl)) (pv 7)))) (pss_one ps_never) pss_nil)
      (pss_cons (ps_set (i := 8) sc_read_paper.nd rfl (by first | exact Or.inl rfl | exact Or.inr rfl) (pe_slice sl_str (pe_ix ix_list (pv 2) (pv 6) (fun _ _ => rfl)) (po_some (pe_callB call_len_str (by rfl) T.len (by decide +kernel) (pa_cons (pv 7) pa_nil))) po_none))
      (pss_one (ps_expr (pe_bm PySem.F.plainAttrs_list PySem.F.slot_list_append PySem.F.type_list_append mt_append (pv 5) (pa_cons (pe_tup (pa_cons (pv 9) (pa_cons (pv 10) (pa_cons (pe_kn G_read_state hr (pa_cons (pv 0) (pa_cons (pv 9) (pa_cons (pv 10) (pa_cons (pv 8) (pa_cons (pe_op op_add (pv 6) pe_int) pa_nil)))))) pa_nil)))) pa_nil)))))))))
    (pss_cons (ps_if (PW.pt (pw_or (pt_cmpR op_gt (pe_callB call_len_seq (by rfl) T.len (by decide +kernel) (pa_cons (pv 2) pa_nil)) (pe_callB call_len_seq (by rfl) T.len (by decide +kernel) (pa_cons (pv 4) pa_nil)) (nomark _)) (pw_or1 (pt_cmpR op_ne (pv 3) pe_str (nomark _))))) (pss_one ps_never) pss_nil)
    (pss_one (ps_ret (pe_callTy call_tuple_of (by rfl) T.tuple (by decide +kernel) (pa_cons (pv 5) pa_nil)))))))))), ?_⟩
  have hl := wf.rows
  have hrl : rs.length = (prows g.prs).length := by rw [← ek, List.length_map]
  have hzt : (ppTx rs).length + 2 ≤ sizeLine := by
    have h1 := ppTx_len fun r hr => (ok r hr).1
    have e : sizeLine = 16777216 := by decide
    omega
  refine ⟨_, rfl, ⟨_, rfl⟩, _, _, rfl, rfl, by decide +kernel, hzt, fun p hp => ?_⟩
  rw [split_pp ok]
  have k1 : ∀ u, Kp none H (upd H p u) := fun u => (Kp.refl _).new hp
  -- last = lines.pop()
  refine ⟨_, rfl, .inl ⟨rfl, _, .inl (.inl upd_same)⟩, p, _, .str "", rfl, rfl, upd_same, by simp, ?_⟩
  rw [upd_upd]
  have ed : ((rs.map lnTx ++ [("" : Str)]).map V.str).dropLast = (rs.map lnTx).map V.str := by simp
  rw [ed]
  refine ⟨_, rfl, v, g, rfl, hv.mono (k1 _).tle, wf, fun wl H2 k2 n2 ls => ?_⟩
  obtain ⟨ws, hw, rw⟩ := ls
  have hp2 : H2 p = some (.lst ((rs.map lnTx).map V.str)) := k2.of upd_same
  refine ⟨Nat.zero_le _, fun o ho => ?_⟩
  have k3 : Kp none H2 (upd H2 o (.lst [])) := (Kp.refl _).new ho
  have k13 := ((k1 _).trans k2).trans k3
  have hp3 := k3.of hp2
  have hw3 := k3.of hw
  have ht3 := TabG.keep k13 ht
  have ho3 : upd H2 o (.lst []) o = some (.lst []) := upd_same
  have oH : H o = none := ((k1 _).trans k2).dom _ ho
  generalize hH3 : upd H2 o (.lst []) = H3 at k3 k13 hp3 hw3 ht3 ho3 ⊢
  have rK : RpA K H3 ws (rs.map encK) := by
    exact PrA.rpa (by rw [ek]; exact rw.mono k3.tle)
  have no : some o ≠ some pt := ne_tab ho3 ht3
  have np : some p ≠ some pt := ne_tab hp3 ht3
  have nw : some wl ≠ some pt := ne_tab hw3 ht3
  have nop : p ≠ o := fun h => by rw [h] at hp2; rw [hp2] at ho; cases ho
  have now : wl ≠ o := fun h => by rw [h] at hw; rw [hw] at ho; cases ho
  refine ⟨_, rfl, wl, ws, rfl, .inl (.inl hw3), for_el (vs := ws) encK rs rK
    (fun l σ' H' => (∃ y z u2 u3 u4, σ' = [some v, some (.str (ppTx rs)), some (.ref p), some (.str ""), some (.ref wl), some (.ref o), y, z, u2, u3, u4]) ∧
      Kp (some pt) H H' ∧ TLe H3 H' ∧ H' p = some (.lst ((rs.map lnTx).map V.str)) ∧ H' wl = some (.lst ws) ∧ GxR.TabG H' pt ∧ Ls K H' o (l.map encRow))
    ⟨⟨_, _, _, _, _, rfl⟩, k13.up, TLe.refl _, hp3, hw3, ht3, [], ho3, .nil⟩ (fun l' σ' H' z => ⟨z.2.2.1, .inl (.inl z.2.2.2.2.1)⟩) ?_ ?_⟩
  · rintro pre r post y T1 σ' H' el ry ⟨⟨z1, z2, z3, z4, z5, rfl⟩, k5, t5, hp5, hw5, tt5, vs5, ho5, ro5⟩ hT1
    have hr0 : r ∈ rs := by rw [el]; simp
    obtain ⟨okr, _⟩ := ok r hr0
    obtain ⟨l1, l2, l3, l4⟩ := lnTx_len okr
    have hln : pre.length < rs.length := by rw [el]; simp
    have hvl := ro5.len
    rw [List.length_map] at hvl
    obtain ⟨b, v1, v2, rfl, hb, s1, s2⟩ := ry.t2
    rw [s1.str_inv, s2.str_inv] at hb
    have k6 : Kp none H' (upd H' T1 (.tup [.int ((pre.length : Nat) : Int), .ref b])) := (Kp.refl _).new hT1
    have hp6 := k6.of hp5
    have hg : ((rs.map lnTx).map V.str)[pre.length]? = some (.str (lnTx r)) := by
      rw [el]; simp
    refine ⟨T1, _, rfl, .inl (.inl upd_same), rfl, _, _, rfl, _, _, rfl, ⟨b, _, rfl, k6.tle.seqT hb, rfl, _, _, rfl, _, _, rfl, rfl, rfl, ?_⟩⟩
    refine ⟨_, rfl, _, rfl, _, _, rfl, .inl (.inl (.inl hp6)), _, _, rfl, rfl, _, rfl, ?_⟩
    refine ite2 (fun hx => ?_) (fun _ => ?_)
    · have := of_decide_eq_true hx
      rw [List.length_map, List.length_map] at this
      omega
    refine ⟨_, rfl, _, _, rfl, rfl, small_le (by omega), _, rfl, _, _, rfl, rfl, small_le (by omega), ?_⟩
    refine ⟨_, rfl, _, rfl, p, _, _, _, rfl, rfl, .inl (.inl hp6), atI_nat (j := pre.length) hg, ⟨_, rfl⟩, _, rfl, _, _, rfl, rfl, _, rfl, ?_⟩
    rw [lnTx_sw]
    refine ⟨_, rfl, _, rfl, p, _, _, _, rfl, rfl, .inl (.inl hp6), atI_nat (j := pre.length) hg, _, rfl, _, rfl, small_le (by omega), _, rfl, _, rfl, small_le (by omega), ?_⟩
    rw [C8.cutS_slice, lnTx_cut]
    obtain ⟨pr, hpr, hpn, hpl⟩ := prows_mem.mp (show (r.nm, r.pl) ∈ prows g.prs by rw [← ek]; exact List.mem_map.mpr ⟨r, hr0, rfl⟩)
    have hfind : findPr g r.nm = some pr := by
      have := wf.find hpr
      rw [hpn] at this
      exact this
    refine ⟨_, rfl, .inl ⟨rfl, _, .inl (.inl (k6.of ho5))⟩, _, rfl, _, rfl, _, rfl, _, rfl, _, rfl, _, rfl, _, rfl, _, _, rfl, rfl, v, r.nm, r.pl, r.st, _, g, pr, rfl, hv.mono (k5.trans k6.up).tle, wf, hfind, okr.st,
      fun l e => hn r hr0 pr l hfind e, TabG.keep k6 tt5, fun u H7 k7 t7 r7 => ?_⟩
    have ho7 := k7.of (k6.of ho5) no
    refine ⟨small_le (by simp), fun T2 hT2 => ?_⟩
    have k8 : Kp none H7 (upd H7 T2 (.tup [.str r.nm, .str r.pl, u])) := (Kp.refl _).new hT2
    have ho8 := k8.of ho7
    have k9 := k6.up.trans (k7.trans k8.up)
    have rT : Rp K (upd H7 T2 (.tup [.str r.nm, .str r.pl, u])) (.ref T2) (encRow r) := Rp.mk hT2 (.cons (.str _) (.cons (.str _) (.cons r7 .nil)))
    refine ⟨o, vs5, _, rfl, rfl, ho8, small_lt (by omega), ?_⟩
    refine ⟨⟨_, _, _, _, _, rfl⟩, (k5.trans k9).put oH, (t5.trans k9.tle).trans (TLe.put ho8), ?_, ?_, ?_, vs5 ++ [.ref T2], upd_same, ?_⟩
    · rw [upd_ne nop]
      exact k9.of hp5 np
    · rw [upd_ne now]
      exact k9.of hw5 nw
    · obtain ⟨ps, g1, g2⟩ := TabG.keep k8 t7
      refine ⟨ps, ?_, g2⟩
      rw [upd_ne (fun h => no (by rw [h]))]
      exact g1
    · rw [List.map_append]
      exact ((ro5.mono k9.tle).snoc rT).mono (TLe.put ho8)
  · rintro σ' H' ⟨⟨z1, z2, z3, z4, z5, rfl⟩, k5, t5, hp5, hw5, tt5, vs5, ho5, ro5⟩
    refine ⟨_, rfl, _, _, rfl, .inl (.inl (.inl hp5)), _, rfl, _, _, rfl, .inl (.inl (.inl hw5)), _, _, rfl, rfl, _, rfl, ?_⟩
    have hwl := rK.len
    refine ite2 (fun hx => ?_) (fun _ => ?_)
    · have := of_decide_eq_true hx
      rw [List.length_map, List.length_map] at this
      rw [List.length_map] at hwl
      omega
    refine ⟨_, rfl, rfl, _, rfl, ?_⟩
    refine ⟨_, rfl, o, vs5, rfl, .inl ⟨.inl (.inl ho5), fun t htn => ?_⟩⟩
    exact q _ _ (k5.new htn) (TabG.keep ((Kp.refl _).new htn) tt5) (Rp.mk htn ro5)
end
end Cl

/-! Carryclaim, the law's own defs: _law_next, _law_number. -/
namespace Cl
open PySem PySem.Spec PyProof.Rows L2
/-- the generator's state stands at st, its script at sc -/
structure Gn (K : PySem.W.Frag) (ns : List Int) (st sc : Addr) (H : Hp) : Prop where
  s4 : ∃ a b c d : Int, H st = some (.lst [.int a, .int b, .int c, .int d]) ∧ 0 ≤ a
  sq : SqL K H sc (ns.map V.int)
  ne : some sc ≠ some st ∨ ∀ H', SqL K H' sc (ns.map V.int)
  len : ns.length ≤ 1000
theorem Gn.keep {K : PySem.W.Frag} {ns : List Int} {st sc : Addr} {H H' : Hp} (h : Gn K ns st sc H) (k : Kp none H H') : Gn K ns st sc H' := by
  obtain ⟨⟨a, b, c, d, h1, h2⟩, h3, h4, h5⟩ := h
  exact ⟨⟨a, b, c, d, k.of h1, h2⟩, k.lst h3, h4, h5⟩
theorem Gn.sqk {K : PySem.W.Frag} {ns : List Int} {st sc : Addr} {H H' : Hp} (h : Gn K ns st sc H) (k : Kp (some st) H H') : SqL K H' sc (ns.map V.int) := h.ne.elim (fun n => k.lst h.sq n) fun f => f H'
theorem Gn.upd {K : PySem.W.Frag} {ns : List Int} {st sc : Addr} {H : Hp} (h : Gn K ns st sc H) {a b c d : Int} (ha : 0 ≤ a) : Gn K ns st sc (upd H st (.lst [.int a, .int b, .int c, .int d])) ∧ Kp (some st) H (upd H st (.lst [.int a, .int b, .int c, .int d])) := by
  obtain ⟨⟨a', b', c', d', h1, h2⟩, h3, h4, h5⟩ := h
  have k : Kp (some st) H (L2.upd H st (.lst [.int a, .int b, .int c, .int d])) := (Kp.refl _).at h1
  exact ⟨⟨⟨a, b, c, d, upd_same, ha⟩, h4.elim (fun n => k.lst h3 n) (fun f => f _), h4, h5⟩, k⟩
theorem fm_b (x : Int) {m : Int} (h : 0 < m) : 0 ≤ x.fmod m ∧ x.fmod m < m := by
  rw [Int.fmod_eq_emod_of_nonneg _ (by omega)]
  exact ⟨Int.emod_nonneg _ (by omega), Int.emod_lt_of_pos _ h⟩
def spNext (K : PySem.W.Frag) (ns : List Int) : Sp := fun vs H Q _ => ∃ (st sc : Addr) (m : Int), vs = [.ref st, .ref sc, .int m] ∧ 0 < m ∧ m < 100000 ∧ Gn K ns st sc H ∧ ∀ (r : Int) H', Kp (some st) H H' → Gn K ns st sc H' → 0 ≤ r → r < m → Q (.int r) H'
def spLnum (K : PySem.W.Frag) (ns : List Int) : Sp := fun vs H Q _ => ∃ (st sc : Addr), vs = [.ref st, .ref sc] ∧ Gn K ns st sc H ∧ ∀ (r : Int) H', Kp (some st) H H' → Gn K ns st sc H' → r.natAbs < 100000 → Q (.int r) H'
section
variable {P : Program} {w : World} {K : PySem.W.Frag} {mg : Str → Option Value} {base : Heap} {ns : List Int}
abbrev s_law_next : Stmt := top 33
abbrev N_law_next : List Str := ["_law_state", "_law_script", "_law_many", "_law_cell", "_law_answer"]
theorem sc_law_next : FnScope N_law_next ["_law_state", "_law_script", "_law_many"] (defScope s_law_next) := ⟨rfl, rfl, rfl, by decide +kernel, rfl, by decide +kernel, by decide +kernel⟩
theorem ok_law_next (T : Bl mg) (D : Df K mg "_law_next" s_law_next ["_law_state", "_law_script", "_law_many"]) : Kn P w K mg base 1 "_law_next" ["_law_state", "_law_script", "_law_many"] (spNext K ns) := by
  refine D.ok sc_law_next (fun vs H Q E h => ?_) (fun f cdv A outer s H vs Q E hr h => ?_)
  · obtain ⟨st, sc, m, rfl, _⟩ := h
    rfl
  obtain ⟨st, sc, m, rfl, hm, hm2, G, q⟩ := h
  refine ⟨_, (pss_cons (ps_if (pt_cmpR op_gt (pe_ix ix_list (pv 0) pe_int (fun _ _ => rfl)) pe_int (nomark _)) (pss_cons (ps_set (i := 4) sc_law_next.nd rfl (by first | exact Or.inl rfl | exact Or.inr rfl) (pe_op op_modN (pe_callTy call_int1 (by rfl) T.int (by decide +kernel) (pa_cons (pe_ix ix_list (pv 0) pe_int (fun _ _ => rfl)) pa_nil)) (pv 2)))
      (pss_cons (ps_asg (pe_op op_fdivW (pe_callTy call_int1 (by rfl) T.int (by decide +kernel) (pa_cons (pe_ix ix_list (pv 0) pe_int (fun _ _ => rfl)) pa_nil)) (pv 2)) (pg_sub (pv 0) pe_int set_list))
      (pss_one (ps_ret (pv 4))))) pss_nil)
    (pss_cons (ps_set (i := 3) sc_law_next.nd rfl (by first | exact Or.inl rfl | exact Or.inr rfl) pe_int)
    (pss_cons (ps_if (pt_cmpR op_lt (pe_ix ix_list (pv 0) pe_int (fun _ _ => rfl)) (pe_callB call_len_seq (by rfl) T.len (by decide +kernel) (pa_cons (pv 1) pa_nil)) (nomark _)) (pss_one (ps_set (i := 3) sc_law_next.nd rfl (by first | exact Or.inl rfl | exact Or.inr rfl) (pe_callB call_abs (by rfl) T.abs (by decide +kernel) (pa_cons (pe_callTy call_int1 (by rfl) T.int (by decide +kernel) (pa_cons (pe_ix ix_list (pv 1) (pe_ix ix_list (pv 0) pe_int (fun _ _ => rfl)) (fun _ _ => rfl)) pa_nil)) pa_nil)))) pss_nil)
    (pss_cons (ps_asg (pe_op op_add (pe_ix ix_list (pv 0) pe_int (fun _ _ => rfl)) pe_int) (pg_sub (pv 0) pe_int set_list))
    (pss_cons (ps_if (pt_cmpR op_ge (pv 3) (pe_op op_pow pe_int pe_int) (nomark _)) (pss_cons (ps_asg (pe_op op_fdivW (pv 3) (pv 2)) (pg_sub (pv 0) pe_int set_list))
      (pss_one (ps_ret (pe_op op_modN (pe_callTy call_int1 (by rfl) T.int (by decide +kernel) (pa_cons (pv 3) pa_nil)) (pv 2))))) pss_nil)
    (pss_cons (ps_asg (pe_op op_modN (pe_callTy call_int1 (by rfl) T.int (by decide +kernel) (pa_cons (pe_op op_add (pe_op op_add (pe_op op_mul (pe_ix ix_list (pv 0) pe_int (fun _ _ => rfl)) pe_int) (pe_op op_mul (pv 3) pe_int)) pe_int) pa_nil)) pe_int) (pg_sub (pv 0) pe_int set_list))
    (pss_one (ps_ret (pe_op op_modN (pe_callTy call_int1 (by rfl) T.int (by decide +kernel) (pa_cons (pe_op op_add (pe_op op_fdivW (pe_ix ix_list (pv 0) pe_int (fun _ _ => rfl)) pe_int) (pe_op op_fdivW (pe_op op_mul (pe_ix ix_list (pv 0) pe_int (fun _ _ => rfl)) (pe_ix ix_list (pv 0) pe_int (fun _ _ => rfl))) pe_int)) pa_nil)) (pv 2)))))))))), ?_⟩
  obtain ⟨a, b, c, d, hst, ha⟩ := G.s4
  have hlog : m.natAbs.log2 < 9000 := Nat.lt_trans (log_int (by omega)) (by decide)
  have hm0 : m ≠ 0 := by omega
  refine ⟨_, rfl, _, _, _, _, rfl, rfl, .inl (.inl hst), rfl, _, _, rfl, rfl, _, rfl, ?_⟩
  refine ite2 (fun hx => ?_) (fun hx => ?_)
  · refine ⟨_, rfl, _, _, _, _, rfl, rfl, .inl (.inl hst), rfl, .inl ⟨_, rfl, _, rfl, _, _, rfl, rfl, hm0, ?_⟩⟩
    refine ⟨_, rfl, _, _, _, _, rfl, rfl, .inl (.inl hst), rfl, .inl ⟨_, rfl, _, rfl, _, _, rfl, rfl, ⟨hm, hlog⟩, ?_⟩⟩
    refine ⟨_, rfl, _, _, _, 1, rfl, rfl, hst, rfl, ?_⟩
    obtain ⟨g1, g2⟩ := fm_b b hm
    obtain ⟨G2, k2⟩ := G.upd (a := a) (b := b / m) (c := c) (d := d) ha
    exact ⟨_, rfl, q _ _ k2 G2 g1 g2⟩
  · refine ⟨_, rfl, _, _, _, _, rfl, rfl, .inl (.inl hst), rfl, _, rfl, _, _, rfl, .inl G.sq, _, _, rfl, rfl, _, rfl, ?_⟩
    have p0 : (2147483647:Int) ≠ 0 := by decide
    have p7 : (0:Int) < 7 := by decide
    have p6 : (0:Int) < 65537 := by decide
    have l7 : (7:Int).natAbs.log2 < 9000 := by decide
    have l6 : (65537:Int).natAbs.log2 < 9000 := by decide +kernel
    have c1 : ∀ i : Int, CMul i 48271 := fun i => .inr ⟨by decide, by decide⟩
    have c2 : ∀ i : Int, CMul i 69621 := fun i => .inr ⟨by decide, by decide⟩
    have cp : CPow 10 18 := ⟨by decide, by decide, by decide⟩
    obtain ⟨G1, k1⟩ := G.upd (a := a + 1) (b := b) (c := c) (d := d) (by omega)
    refine ite2 (fun hy => ?g1) (fun hy => ?g2)
    case' g1 =>
      have hy := of_decide_eq_true hy
      have hy2 : a.toNat < ns.length := by
        rw [List.length_map] at hy
        omega
      have hc : (ns.map V.int)[a.toNat]? = some (.int ns[a.toNat]) := by
        rw [List.getElem?_map, List.getElem?_eq_getElem hy2]; rfl
      have hat : atI (ns.map V.int) a = some (.int ns[a.toNat]) := by
        have := atI_nat (j := a.toNat) hc
        rwa [Int.toNat_of_nonneg ha] at this
      refine ⟨_, rfl, _, rfl, _, _, _, _, rfl, rfl, .inl (.inl hst), rfl, _, _, _, _, rfl, rfl, G.sq, hat, .inl ⟨_, rfl, _, rfl, ?_⟩⟩
      generalize (if ns[a.toNat] < 0 then -ns[a.toNat] else ns[a.toNat]) = cell
    all_goals
      refine ⟨_, rfl, _, _, _, _, rfl, rfl, .inl (.inl hst), rfl, _, _, rfl, rfl, _, rfl, _, _, _, 0, rfl, rfl, hst, rfl, ?_⟩
      refine ⟨_, rfl, _, _, rfl, rfl, cp, _, _, rfl, rfl, _, rfl, ?_⟩
      refine ite2 (fun hz => ?_) (fun hz => ?_)
      · refine ⟨_, rfl, _, rfl, _, _, rfl, rfl, ⟨hm, hlog⟩, _, rfl, _, _, _, 1, rfl, rfl, upd_same, rfl, ?_⟩
        refine ⟨_, rfl, .inl ⟨_, rfl, _, rfl, _, _, rfl, rfl, hm0, ?_⟩⟩
        obtain ⟨G2, k2⟩ := G1.upd (a := a + 1) (b := _) (c := c) (d := d) (by omega)
        exact q _ _ (k1.trans k2) G2 (fm_b _ hm).1 (fm_b _ hm).2
      · refine ⟨_, rfl, _, _, _, _, rfl, rfl, .inl (.inl upd_same), rfl, _, _, rfl, rfl, c1 _, _, rfl, _, _, rfl, rfl, c2 _, _, _, rfl, rfl, _, _, rfl, rfl, .inl ⟨_, rfl, _, _, rfl, rfl, p0, _, rfl, _, _, _, 2, rfl, rfl, upd_same, rfl, ?_⟩⟩
        obtain ⟨G2, k2⟩ := G1.upd (a := a + 1) (b := b) (c := _) (d := d) (by omega)
        refine ⟨_, rfl, _, _, _, _, rfl, rfl, .inl (.inl upd_same), rfl, _, _, rfl, rfl, ⟨p7, l7⟩, _, rfl, _, _, _, _, rfl, rfl, .inl (.inl upd_same), rfl, _, rfl, _, _, _, _, rfl, rfl, .inl (.inl upd_same), rfl, _, _, rfl, rfl, .inl ?_, _, _, rfl, rfl, ⟨p6, l6⟩, _, _, rfl, rfl, .inl ⟨_, rfl, _, rfl, _, _, rfl, rfl, hm0, ?_⟩⟩
        · obtain ⟨h1, h2⟩ := fm_b (c * 48271 + _ * 69621 + 12345) (m := 2147483647) (by decide)
          exact ⟨Int.lt_of_lt_of_le (by decide) h1, Int.lt_trans h2 (by decide)⟩
        · exact q _ _ (k1.trans k2) G2 (fm_b _ hm).1 (fm_b _ hm).2

abbrev s_law_number : Stmt := top 35
abbrev N_law_number : List Str := ["_law_state", "_law_script", "_law_choice"]
theorem sc_law_number : FnScope N_law_number ["_law_state", "_law_script"] (defScope s_law_number) := ⟨rfl, rfl, rfl, by decide +kernel, rfl, by decide +kernel, by decide +kernel⟩
theorem ok_law_number (D : Df K mg "_law_number" s_law_number ["_law_state", "_law_script"]) (G_law_next : Kn P w K mg base 1 "_law_next" ["_law_state", "_law_script", "_law_many"] (spNext K ns)) : Kn P w K mg base 2 "_law_number" ["_law_state", "_law_script"] (spLnum K ns) := by
  refine D.ok sc_law_number (fun vs H Q E h => ?_) (fun f cdv A outer s H vs Q E hr h => ?_)
  · obtain ⟨st, sc, rfl, _⟩ := h
    rfl
  obtain ⟨st, sc, rfl, G, q⟩ := h
  refine ⟨_, (pss_cons (ps_set (i := 2) sc_law_number.nd rfl (by first | exact Or.inl rfl | exact Or.inr rfl) (pe_kn G_law_next hr (pa_cons (pv 0) (pa_cons (pv 1) (pa_cons pe_int pa_nil)))))
    (pss_cons (ps_if (pt_cmpR op_lt (pv 2) pe_int (nomark _)) (pss_one (ps_ret (pe_op op_sub (pe_kn G_law_next hr (pa_cons (pv 0) (pa_cons (pv 1) (pa_cons pe_int pa_nil)))) pe_int))) pss_nil)
    (pss_cons (ps_if (pt_cmpR op_eq (pv 2) pe_int (nomark _)) (pss_one (ps_ret (pe_ix ix_list (pe_lst (pa_cons pe_int (pa_cons pe_int (pa_cons pe_int (pa_cons pe_int (pa_cons pe_int pa_nil)))))) (pe_kn G_law_next hr (pa_cons (pv 0) (pa_cons (pv 1) (pa_cons pe_int pa_nil)))) (fun _ _ => rfl)))) pss_nil)
    (pss_cons (ps_if (pt_cmpR op_eq (pv 2) pe_int (nomark _)) (pss_one (ps_ret (pe_op op_sub pe_int (pe_kn G_law_next hr (pa_cons (pv 0) (pa_cons (pv 1) (pa_cons pe_int pa_nil))))))) pss_nil)
    (pss_one (ps_ret (pe_ix ix_list (pe_lst (pa_cons pe_int (pa_cons (pe_un un_neg pe_int) (pa_cons pe_int (pa_cons pe_int (pa_cons (pe_un un_neg pe_int) (pa_cons pe_int pa_nil))))))) (pe_kn G_law_next hr (pa_cons (pv 0) (pa_cons (pv 1) (pa_cons pe_int pa_nil)))) (fun _ _ => rfl)))))))), ?_⟩
  refine ⟨_, rfl, _, rfl, st, sc, _, rfl, by decide, by decide, G, fun r1 H1 k1 G1 a1 a2 => ?_⟩
  refine ⟨_, rfl, _, _, rfl, rfl, _, rfl, ?_⟩
  refine ite2 (fun hx => ?_) (fun hx => ?_)
  · refine ⟨_, rfl, _, rfl, st, sc, _, rfl, by decide, by decide, G1, fun r2 H2 k2 G2 b1 b2 => ?_⟩
    exact ⟨_, _, rfl, rfl, q _ _ (k1.trans k2) G2 (by omega)⟩
  refine ⟨_, rfl, rfl, _, rfl, ?_⟩
  refine ite2 (fun hx => ?_) (fun hx => ?_)
  · refine ⟨small_le (by simp), fun l hl => ?_⟩
    have k2 : Kp none H1 (upd H1 l (.lst [.int 0, .int 1, .int 2, .int 10, .int 100])) := (Kp.refl _).new hl
    refine ⟨_, rfl, _, rfl, st, sc, _, rfl, by decide, by decide, G1.keep k2, fun r2 H2 k3 G2 b1 b2 => ?_⟩
    have nl : some l ≠ some st := fun e => by
      cases e
      obtain ⟨_, _, _, _, h, _⟩ := G1.s4
      rw [h] at hl; cases hl
    have hl2 := k3.of (show (upd H1 l (.lst [.int 0, .int 1, .int 2, .int 10, .int 100])) l = _ from upd_same) nl
    have hc : ∃ z : Int, atI [V.int 0, .int 1, .int 2, .int 10, .int 100] r2 = some (.int z) ∧ z.natAbs < 100000 := by
      rcases (show r2 = 0 ∨ r2 = 1 ∨ r2 = 2 ∨ r2 = 3 ∨ r2 = 4 by omega) with rfl | rfl | rfl | rfl | rfl <;> exact ⟨_, rfl, by decide⟩
    obtain ⟨z, hz, bz⟩ := hc
    exact ⟨_, _, _, _, rfl, rfl, .inl (.inl hl2), hz, q _ _ ((k1.trans k2.up).trans k3) G2 bz⟩
  refine ⟨_, rfl, rfl, _, rfl, ?_⟩
  refine ite2 (fun hx => ?_) (fun hx => ?_)
  · refine ⟨_, rfl, _, rfl, st, sc, _, rfl, by decide, by decide, G1, fun r2 H2 k2 G2 b1 b2 => ?_⟩
    exact ⟨_, _, rfl, rfl, q _ _ (k1.trans k2) G2 (by omega)⟩
  refine ⟨_, rfl, _, rfl, small_le (by simp), fun l hl => ?_⟩
  have k2 : Kp none H1 (upd H1 l (.lst [.int 10000, .int (-10000), .int 9999, .int 101, .int (-1), .int 7])) := (Kp.refl _).new hl
  refine ⟨_, rfl, _, rfl, st, sc, _, rfl, by decide, by decide, G1.keep k2, fun r2 H2 k3 G2 b1 b2 => ?_⟩
  have nl : some l ≠ some st := fun e => by
    cases e
    obtain ⟨_, _, _, _, h, _⟩ := G1.s4
    rw [h] at hl; cases hl
  have hl2 := k3.of (show (upd H1 l (.lst [.int 10000, .int (-10000), .int 9999, .int 101, .int (-1), .int 7])) l = _ from upd_same) nl
  have hc : ∃ z : Int, atI [V.int 10000, .int (-10000), .int 9999, .int 101, .int (-1), .int 7] r2 = some (.int z) ∧ z.natAbs < 100000 := by
    rcases (show r2 = 0 ∨ r2 = 1 ∨ r2 = 2 ∨ r2 = 3 ∨ r2 = 4 ∨ r2 = 5 by omega) with rfl | rfl | rfl | rfl | rfl | rfl <;> exact ⟨_, rfl, by decide⟩
  obtain ⟨z, hz, bz⟩ := hc
  exact ⟨_, _, _, _, rfl, rfl, .inl (.inl hl2), hz, q _ _ ((k1.trans k2.up).trans k3) G2 bz⟩
end
end Cl

/-! Carryclaim, the law's own defs: expressions and conditions. -/
namespace Cl
open PySem PySem.Spec PyProof.Rows L2
structure Pn (n L : Nat) (d : PyData) : Prop where
  sh : d.showable = true
  nd : d.hasDict = false
  dep : d.depth ≤ n
  len : d.shown.length ≤ L
structure Pa (n L : Nat) (ds : List PyData) : Prop where
  sh : PyData.showableAll ds = true
  nd : PyData.hasDictAll ds = false
  dep : PyData.depthAll ds ≤ n
  len : PySem.piled (PyData.shownAll ds) ≤ L
theorem Pa.nil {n : Nat} : Pa n 0 [] := ⟨by simp [PyData.showableAll], by simp [PyData.hasDictAll], by simp [PyData.depthAll], by simp [PyData.shownAll, PySem.piled]⟩
theorem Pa.cons {n L M : Nat} {d : PyData} {ds : List PyData} (h : Pn n L d) (t : Pa n M ds) : Pa n (L + 2 + M) (d :: ds) := by
  refine ⟨?_, ?_, ?_, ?_⟩
  · simp only [PyData.showableAll, h.sh, t.sh, Bool.and_self]
  · simp only [PyData.hasDictAll, h.nd, t.nd, Bool.or_self]
  · have := h.dep; have := t.dep; simp only [PyData.depthAll]; omega
  · have := h.len; have := t.len; simp only [PyData.shownAll, PySem.piled_cons]; omega
theorem Pn.tup {n L : Nat} {ds : List PyData} (t : Pa n L ds) : Pn (n + 1) (L + 3) (.tuple ds) := by
  refine ⟨?_, ?_, ?_, ?_⟩
  · simp only [PyData.showable, t.sh]
  · simp only [PyData.hasDict, t.nd]
  · have := t.dep; simp only [PyData.depth]; omega
  · have hl := t.len
    simp only [PyData.shown]
    have z : ∀ ts : List Str, PySem.piled ts ≤ L → (PySem.tupleText ts).length ≤ L + 3 := fun ts h => by
      unfold PySem.tupleText
      rw [ln_app, ln_app]
      have e1 : ("(" : Str).length = 1 := by decide +kernel
      have e2 : ((if ts.length == 1 then ",)" else ")" : String) : Str).length ≤ 2 := by
        split
        · decide +kernel
        · decide +kernel
      have e3 : (Str.join ", " ts).length ≤ L := by
        cases ts with
        | nil => exact Nat.zero_le _
        | cons x r =>
          have := PySem.join_length_add (x :: r) (by simp)
          omega
      omega
    exact z _ hl
theorem Pn.mono {n m L M : Nat} {d : PyData} (h : Pn n L d) (h1 : n ≤ m) (h2 : L ≤ M) : Pn m M d := ⟨h.sh, h.nd, Nat.le_trans h.dep h1, Nat.le_trans h.len h2⟩
theorem Pn.str {n L : Nat} {x : Str} (h : (PySem.reprText x).length ≤ L) : Pn n L (.str x) := ⟨by simp [PyData.showable], by simp [PyData.hasDict], by simp [PyData.depth], by simpa only [PyData.shown] using h⟩
theorem Pn.int {n : Nat} {i : Int} (h : i.natAbs < 100000) : Pn n 6 (.int i) := ⟨by simp only [PyData.showable]; exact decide_eq_true (log_int h), by simp [PyData.hasDict], by simp [PyData.depth], by simp only [PyData.shown]; exact iTx_len h⟩
theorem Pn.none {n : Nat} : Pn n 4 .none := ⟨by simp [PyData.showable], by simp [PyData.hasDict], by simp [PyData.depth], by simp only [PyData.shown]; decide +kernel⟩
theorem NM_repr : ∀ x ∈ NM, (PySem.reprText x).length ≤ 8 := by decide +kernel
theorem PN_repr : ∀ x ∈ PN, (PySem.reprText x).length ≤ 8 := by decide +kernel
def signs : List Str := ["+", "-", "*", "/", "mod", "+", "-"]
def rels : List Str := ["<", "<=", "==", "!="]
def bops : List Str := ["and", "or"]
def tags : List Str := ["op", "name", "number", "compare", "not", "set", "ask", "tell", "check", "need", "return", "if", "while", "call"]
theorem signs_repr : ∀ x ∈ signs ++ rels ++ bops ++ tags, (PySem.reprText x).length ≤ 9 := by decide +kernel
theorem tag_p {n : Nat} {x : Str} (h : x ∈ signs ++ rels ++ bops ++ tags) : Pn n 9 (.str x) := .str (signs_repr x h)
theorem new_ne {K : PySem.W.Frag} {ns : List Int} {st sc l : Addr} {H : Hp} (G : Gn K ns st sc H) (h : H l = none) : some l ≠ some st := fun e => by
  cases e
  obtain ⟨_, _, _, _, h2, _⟩ := G.s4
  rw [h2] at h; cases h
theorem at_str {xs : List Str} {r : Int} (h0 : 0 ≤ r) (h : r < ((xs.length : Nat) : Int)) : ∃ x ∈ xs, atI (xs.map V.str) r = some (.str x) := by
  have h2 : r.toNat < xs.length := by omega
  refine ⟨xs[r.toNat], List.getElem_mem h2, ?_⟩
  have hc : (xs.map V.str)[r.toNat]? = some (.str xs[r.toNat]) := by
    rw [List.getElem?_map, List.getElem?_eq_getElem h2]; rfl
  have := atI_nat (j := r.toNat) hc
  rwa [Int.toNat_of_nonneg h0] at this
/-- the list of names at nm -/
structure Nm (K : PySem.W.Frag) (st nm : Addr) (xs : List Str) (H : Hp) : Prop where
  sq : SqL K H nm (xs.map V.str)
  ne : some nm ≠ some st
  mem : ∀ x ∈ xs, x ∈ NM
  len : xs.length ≤ 100
theorem Nm.keep {K : PySem.W.Frag} {st nm : Addr} {xs : List Str} {H H' : Hp} (h : Nm K st nm xs H) (k : Kp (some st) H H') : Nm K st nm xs H' := ⟨k.lst h.sq h.ne, h.ne, h.mem, h.len⟩
def exB : Nat → Nat
  | 0 => 31
  | n + 1 => 2 * exB n + 29
def spLexp (K : PySem.W.Frag) (ns : List Int) (n : Nat) : Sp := fun vs H Q _ => ∃ (st sc nm : Addr) (xs : List Str), vs = [.ref st, .ref sc, .ref nm, .int ((n : Nat) : Int)] ∧ Gn K ns st sc H ∧ Nm K st nm xs H ∧
  ∀ u e H', Kp (some st) H H' → Gn K ns st sc H' → Rp K H' u e → Pn (n + 1) (exB n) e → Q u H'
def spLcmp (K : PySem.W.Frag) (ns : List Int) (n L : Nat) : Sp := fun vs H Q _ => ∃ (st sc nm : Addr) (xs : List Str), vs = [.ref st, .ref sc, .ref nm] ∧ Gn K ns st sc H ∧ Nm K st nm xs H ∧
  ∀ u e H', Kp (some st) H H' → Gn K ns st sc H' → Rp K H' u e → Pn n L e → Q u H'
section
variable {P : Program} {w : World} {K : PySem.W.Frag} {mg : Str → Option Value} {base : Heap} {ns : List Int}
abbrev s_law_expression : Stmt := top 36
abbrev N_law_expression : List Str := ["_law_state", "_law_script", "_law_names", "_law_depth", "_law_choice", "_law_sign", "_law_left"]
theorem sc_law_expression : FnScope N_law_expression ["_law_state", "_law_script", "_law_names", "_law_depth"] (defScope s_law_expression) := ⟨rfl, rfl, rfl, by decide +kernel, rfl, by decide +kernel, by decide +kernel⟩
abbrev Anext (P : Program) (w : World) (K : PySem.W.Frag) (mg : Str → Option Value) (base : Heap) (ns : List Int) : Prop := Kn P w K mg base 1 "_law_next" ["_law_state", "_law_script", "_law_many"] (spNext K ns)
theorem exB_ge : ∀ n, 31 ≤ exB n
  | 0 => Nat.le_refl _
  | n + 1 => by have := exB_ge n; simp only [exB]; omega
theorem sub1 (m : Nat) : V.int (((m + 1 : Nat) : Int) - 1) = V.int ((m : Nat) : Int) := congrArg V.int (by omega)
theorem ok_lexp_step {n : Nat} (T : Bl mg) (D : Df K mg "_law_expression" s_law_expression ["_law_state", "_law_script", "_law_names", "_law_depth"]) (G_law_next : Anext P w K mg base ns)
    (G_law_number : Kn P w K mg base 2 "_law_number" ["_law_state", "_law_script"] (spLnum K ns))
    (G_law_expression : Kn P w K mg base (n + 2) "_law_expression" ["_law_state", "_law_script", "_law_names", "_law_depth"] (fun vs H Q E => ∃ j, n = j + 1 ∧ spLexp K ns j vs H Q E)) :
    Kn P w K mg base (n + 3) "_law_expression" ["_law_state", "_law_script", "_law_names", "_law_depth"] (spLexp K ns n) := by
  refine D.ok sc_law_expression (fun vs H Q E h => ?_) (fun f cdv A outer s H vs Q E hr h => ?_)
  · obtain ⟨st, sc, nm, xs, rfl, _⟩ := h
    rfl
  obtain ⟨st, sc, nm, xs, rfl, G, N, q⟩ := h
  refine ⟨_, (pss_cons (ps_set (i := 4) sc_law_expression.nd rfl (by first | exact Or.inl rfl | exact Or.inr rfl) (pe_kn G_law_next hr (pa_cons (pv 0) (pa_cons (pv 1) (pa_cons pe_int pa_nil))) (by omega)))
    (pss_cons (ps_if (PW.pt (pw_and (pt_cmpR op_gt (pv 3) pe_int (nomark _)) (pw_and1 (pt_cmpR op_lt (pv 4) pe_int (nomark _))))) (pss_cons (ps_set (i := 5) sc_law_expression.nd rfl (by first | exact Or.inl rfl | exact Or.inr rfl) (pe_ix ix_list (pe_lst (pa_cons pe_str (pa_cons pe_str (pa_cons pe_str (pa_cons pe_str (pa_cons pe_str (pa_cons pe_str (pa_cons pe_str pa_nil)))))))) (pe_kn G_law_next hr (pa_cons (pv 0) (pa_cons (pv 1) (pa_cons pe_int pa_nil))) (by omega)) (fun _ _ => rfl)))
      (pss_cons (ps_set (i := 6) sc_law_expression.nd rfl (by first | exact Or.inl rfl | exact Or.inr rfl) (pe_kn G_law_expression hr (pa_cons (pv 0) (pa_cons (pv 1) (pa_cons (pv 2) (pa_cons (pe_op op_sub (pv 3) pe_int) pa_nil)))) (by omega)))
      (pss_one (ps_ret (pe_tup (pa_cons pe_str (pa_cons (pv 5) (pa_cons (pv 6) (pa_cons (pe_kn G_law_expression hr (pa_cons (pv 0) (pa_cons (pv 1) (pa_cons (pv 2) (pa_cons (pe_op op_sub (pv 3) pe_int) pa_nil)))) (by omega)) pa_nil))))))))) pss_nil)
    (pss_cons (ps_if (PW.pt (pw_and (pt_cmpR op_gt (pe_callB call_len_seq (by rfl) T.len (by decide +kernel) (pa_cons (pv 2) pa_nil)) pe_int (nomark _)) (pw_and1 (pt_cmpR op_lt (pv 4) pe_int (nomark _))))) (pss_one (ps_ret (pe_tup (pa_cons pe_str (pa_cons (pe_ix ix_list (pv 2) (pe_kn G_law_next hr (pa_cons (pv 0) (pa_cons (pv 1) (pa_cons (pe_callB call_len_seq (by rfl) T.len (by decide +kernel) (pa_cons (pv 2) pa_nil)) pa_nil))) (by omega)) (fun _ _ => rfl)) pa_nil))))) pss_nil)
    (pss_one (ps_ret (pe_tup (pa_cons pe_str (pa_cons (pe_kn G_law_number hr (pa_cons (pv 0) (pa_cons (pv 1) pa_nil)) (by omega)) pa_nil)))))))), ?_⟩
  refine ⟨_, rfl, _, rfl, st, sc, _, rfl, by decide, by decide, G, fun r1 H1 k1 G1 a1 a2 => ?_⟩
  have N1 := N.keep k1
  refine ⟨_, rfl, _, _, rfl, rfl, _, rfl, ?_⟩
  refine ite2 (fun hx => ?g1) (fun hx => ?g2)
  case' g1 =>
    have hx := of_decide_eq_true hx
    obtain ⟨m, hm⟩ : ∃ m, n = m + 1 := ⟨n - 1, by omega⟩
    refine ⟨_, rfl, _, _, rfl, rfl, _, rfl, ?_⟩
    refine ite2 (fun hy => ?h1) (fun hy => ?h2)
    case h1 =>
      subst hm
      refine ⟨small_le (by simp), fun l hl => ?_⟩
      have k2 : Kp none H1 (upd H1 l (.lst (signs.map V.str))) := (Kp.refl _).new hl
      refine ⟨_, rfl, _, rfl, st, sc, _, rfl, by decide, by decide, G1.keep k2, fun r2 H2 k3 G2 b1 b2 => ?_⟩
      obtain ⟨sg, hsg, hat⟩ := at_str (xs := signs) b1 b2
      have hl2 : H2 l = some (.lst (signs.map V.str)) := k3.of upd_same (new_ne G1 hl)
      refine ⟨_, _, _, _, rfl, rfl, .inl (.inl hl2), hat, ?_⟩
      have N2 := N1.keep (k2.up.trans k3)
      refine ⟨_, rfl, _, rfl, _, rfl, _, rfl, _, _, rfl, rfl, m, rfl, st, sc, nm, xs, congrArg (fun z => [V.ref st, V.ref sc, V.ref nm, z]) (sub1 m), G2, N2, fun u1 e1 H3 k4 G3 q1 p1 => ?_⟩
      have N3 := N2.keep k4
      refine ⟨_, rfl, _, rfl, _, rfl, _, rfl, _, rfl, _, rfl, _, _, rfl, rfl, m, rfl, st, sc, nm, xs, congrArg (fun z => [V.ref st, V.ref sc, V.ref nm, z]) (sub1 m), G3, N3, fun u2 e2 H4 k5 G4 q2 p2 => ?_⟩
      refine ⟨small_le (by simp), fun t htn => ?_⟩
      have k6 : Kp none H4 (upd H4 t (.tup [.str "op", .str sg, u1, u2])) := (Kp.refl _).new htn
      refine q _ (.tuple [.str "op", .str sg, e1, e2]) _ (((((k1.trans k2.up).trans k3).trans k4).trans k5).trans k6.up) (G4.keep k6) (Rp.mk htn (.cons (.str _) (.cons (.str _) (.cons (q1.mono k5.tle) (.cons q2 .nil))))) ?_
      exact (Pn.tup (.cons (tag_p (by simp [tags])) (.cons (tag_p (by simp [hsg])) (.cons p1 (.cons p2 .nil))))).mono (by omega) (by simp only [exB]; omega)
  all_goals
    have hB := exB_ge n
    refine ⟨_, rfl, _, _, rfl, .inl N1.sq, _, _, rfl, rfl, _, rfl, ?_⟩
    refine ite2 (fun hz => ?_) (fun hz => ?_)
    have hz := of_decide_eq_true hz
    refine ⟨_, rfl, _, _, rfl, rfl, _, rfl, ?_⟩
    refine ite2 (fun hy => ?_) (fun hy => ?_)
    · have hz2 : 0 < ((xs.length : Nat) : Int) := by rw [List.length_map] at hz; exact hz
      have hl := N1.len
      refine ⟨_, rfl, _, rfl, _, rfl, _, rfl, _, _, rfl, .inl N1.sq, st, sc, _, rfl, ?_, ?_, G1, fun r2 H2 k3 G2 b1 b2 => ?_⟩
      · rw [List.length_map]; exact hz2
      · rw [List.length_map]; omega
      rw [List.length_map] at b2
      obtain ⟨x, hx, hat⟩ := at_str b1 b2
      refine ⟨_, _, _, _, rfl, rfl, (N1.keep k3).sq, hat, small_le (by simp), fun t htn => ?_⟩
      have k6 : Kp none H2 (upd H2 t (.tup [.str "name", .str x])) := (Kp.refl _).new htn
      refine q _ (.tuple [.str "name", .str x]) _ ((k1.trans k3).trans k6.up) (G2.keep k6) (Rp.mk htn (.cons (.str _) (.cons (.str _) .nil))) ?_
      exact (Pn.tup (n := 0) (.cons (tag_p (by simp [tags])) (.cons (.str (NM_repr x (N1.mem x hx))) .nil))).mono (by omega) (by omega)
    all_goals
      refine ⟨_, rfl, _, rfl, st, sc, rfl, G1, fun r2 H2 k3 G2 b => ?_⟩
      refine ⟨small_le (by simp), fun t htn => ?_⟩
      have k6 : Kp none H2 (upd H2 t (.tup [.str "number", .int r2])) := (Kp.refl _).new htn
      refine q _ (.tuple [.str "number", .int r2]) _ ((k1.trans k3).trans k6.up) (G2.keep k6) (Rp.mk htn (.cons (.str _) (.cons (.int _) .nil))) ?_
      exact (Pn.tup (n := 0) (.cons (tag_p (by simp [tags])) (.cons (.int b) .nil))).mono (by omega) (by omega)
theorem ok_lexp (T : Bl mg) (D : Df K mg "_law_expression" s_law_expression ["_law_state", "_law_script", "_law_names", "_law_depth"]) (G_law_next : Anext P w K mg base ns)
    (G_law_number : Kn P w K mg base 2 "_law_number" ["_law_state", "_law_script"] (spLnum K ns)) : ∀ n, Kn P w K mg base (n + 3) "_law_expression" ["_law_state", "_law_script", "_law_names", "_law_depth"] (spLexp K ns n) := by
  intro n
  induction n with
  | zero => exact ok_lexp_step (n := 0) T D G_law_next G_law_number (by
      obtain ⟨f, fd, F, b, m⟩ := D
      refine ⟨f, fd, ⟨fun vs H Q E h => ?_, fun A outer s H args us vs Q E _ _ _ _ h => ?_⟩, b, m, F.kp⟩
      · obtain ⟨j, hj, _⟩ := h; omega
      · obtain ⟨j, hj, _⟩ := h; omega)
  | succ n ih => exact ok_lexp_step (n := n + 1) T D G_law_next G_law_number (ih.imp fun vs H Q E h => by
      obtain ⟨j, hj, h⟩ := h
      obtain rfl : n = j := by omega
      exact h)
end
end Cl

/-! Carryclaim, the law's own defs: _law_comparison, _law_condition. -/
namespace Cl
open PySem PySem.Spec PyProof.Rows L2
section
variable {P : Program} {w : World} {K : PySem.W.Frag} {mg : Str → Option Value} {base : Heap} {ns : List Int}
abbrev s_law_comparison : Stmt := top 37
abbrev N_law_comparison : List Str := ["_law_state", "_law_script", "_law_names", "_law_relation", "_law_left", "_law_made"]
theorem sc_law_comparison : FnScope N_law_comparison ["_law_state", "_law_script", "_law_names"] (defScope s_law_comparison) := ⟨rfl, rfl, rfl, by decide +kernel, rfl, by decide +kernel, by decide +kernel⟩
theorem ok_law_comparison (D : Df K mg "_law_comparison" s_law_comparison ["_law_state", "_law_script", "_law_names"]) (G_law_next : Anext P w K mg base ns)
    (G_law_expression : Kn P w K mg base 4 "_law_expression" ["_law_state", "_law_script", "_law_names", "_law_depth"] (spLexp K ns 1)) : Kn P w K mg base 5 "_law_comparison" ["_law_state", "_law_script", "_law_names"] (spLcmp K ns 4 230) := by
  refine D.ok sc_law_comparison (fun vs H Q E h => ?_) (fun f cdv A outer s H vs Q E hr h => ?_)
  · obtain ⟨st, sc, nm, xs, rfl, _⟩ := h
    rfl
  obtain ⟨st, sc, nm, xs, rfl, G, N, q⟩ := h
  refine ⟨_, (pss_cons (ps_set (i := 3) sc_law_comparison.nd rfl (by first | exact Or.inl rfl | exact Or.inr rfl) (pe_ix ix_list (pe_lst (pa_cons pe_str (pa_cons pe_str (pa_cons pe_str (pa_cons pe_str pa_nil))))) (pe_kn G_law_next hr (pa_cons (pv 0) (pa_cons (pv 1) (pa_cons pe_int pa_nil)))) (fun _ _ => rfl)))
    (pss_cons (ps_set (i := 4) sc_law_comparison.nd rfl (by first | exact Or.inl rfl | exact Or.inr rfl) (pe_kn G_law_expression hr (pa_cons (pv 0) (pa_cons (pv 1) (pa_cons (pv 2) (pa_cons pe_int pa_nil))))))
    (pss_cons (ps_set (i := 5) sc_law_comparison.nd rfl (by first | exact Or.inl rfl | exact Or.inr rfl) (pe_tup (pa_cons pe_str (pa_cons (pv 3) (pa_cons (pv 4) (pa_cons (pe_kn G_law_expression hr (pa_cons (pv 0) (pa_cons (pv 1) (pa_cons (pv 2) (pa_cons pe_int pa_nil))))) pa_nil))))))
    (pss_cons (ps_if (pt_cmpR op_eq (pe_kn G_law_next hr (pa_cons (pv 0) (pa_cons (pv 1) (pa_cons pe_int pa_nil)))) pe_int (nomark _)) (pss_one (ps_ret (pe_tup (pa_cons pe_str (pa_cons (pv 5) pa_nil))))) pss_nil)
    (pss_one (ps_ret (pv 5))))))), ?_⟩
  refine ⟨small_le (by simp), fun l hl => ?_⟩
  have k1 : Kp none H (upd H l (.lst (rels.map V.str))) := (Kp.refl _).new hl
  refine ⟨_, rfl, _, rfl, st, sc, _, rfl, by decide, by decide, G.keep k1, fun r2 H2 k2 G2 b1 b2 => ?_⟩
  obtain ⟨sg, hsg, hat⟩ := at_str (xs := rels) b1 b2
  have hl2 : H2 l = some (.lst (rels.map V.str)) := k2.of upd_same (new_ne G hl)
  refine ⟨_, _, _, _, rfl, rfl, .inl (.inl hl2), hat, ?_⟩
  have N2 := N.keep (k1.up.trans k2)
  refine ⟨_, rfl, _, rfl, _, rfl, st, sc, nm, xs, rfl, G2, N2, fun u1 e1 H3 k3 G3 q1 p1 => ?_⟩
  have N3 := N2.keep k3
  refine ⟨_, rfl, _, rfl, _, rfl, _, rfl, _, rfl, st, sc, nm, xs, rfl, G3, N3, fun u2 e2 H4 k4 G4 q2 p2 => ?_⟩
  refine ⟨small_le (by simp), fun t htn => ?_⟩
  have k5 : Kp none H4 (upd H4 t (.tup [.str "compare", .str sg, u1, u2])) := (Kp.refl _).new htn
  have rC : Rp K (upd H4 t (.tup [.str "compare", .str sg, u1, u2])) (.ref t) (.tuple [.str "compare", .str sg, e1, e2]) := Rp.mk htn (.cons (.str _) (.cons (.str _) (.cons (q1.mono k4.tle) (.cons q2 .nil))))
  have pC : Pn 3 211 (.tuple [.str "compare", .str sg, e1, e2]) := (Pn.tup (.cons (tag_p (by simp [tags])) (.cons (tag_p (by simp [hsg])) (.cons p1 (.cons p2 .nil))))).mono (by omega) (by simp only [exB]; omega)
  have kA := (((k1.up.trans k2).trans k3).trans k4).trans k5.up
  refine ⟨_, rfl, _, rfl, st, sc, _, rfl, by decide, by decide, G4.keep k5, fun r6 H6 k6 G6 c1 c2 => ?_⟩
  refine ⟨rfl, _, rfl, ?_⟩
  refine ite2 (fun hx => ?_) (fun hx => ?_)
  · refine ⟨_, rfl, small_le (by simp), fun t2 ht2 => ?_⟩
    have k7 : Kp none H6 (upd H6 t2 (.tup [.str "not", .ref t])) := (Kp.refl _).new ht2
    refine q _ (.tuple [.str "not", .tuple [.str "compare", .str sg, e1, e2]]) _ ((kA.trans k6).trans k7.up) (G6.keep k7) (Rp.mk ht2 (.cons (.str _) (.cons (rC.mono k6.tle) .nil))) ?_
    exact (Pn.tup (.cons (tag_p (by simp [tags])) (.cons pC .nil))).mono (by omega) (by omega)
  · exact ⟨_, rfl, q _ _ _ (kA.trans k6) G6 (rC.mono k6.tle) (pC.mono (by omega) (by omega))⟩

abbrev s_law_condition : Stmt := top 38
abbrev N_law_condition : List Str := ["_law_state", "_law_script", "_law_names", "_law_choice", "_law_left", "_law_made"]
theorem sc_law_condition : FnScope N_law_condition ["_law_state", "_law_script", "_law_names"] (defScope s_law_condition) := ⟨rfl, rfl, rfl, by decide +kernel, rfl, by decide +kernel, by decide +kernel⟩
theorem ok_law_condition (D : Df K mg "_law_condition" s_law_condition ["_law_state", "_law_script", "_law_names"]) (G_law_next : Anext P w K mg base ns)
    (G_law_comparison : Kn P w K mg base 5 "_law_comparison" ["_law_state", "_law_script", "_law_names"] (spLcmp K ns 4 230)) : Kn P w K mg base 6 "_law_condition" ["_law_state", "_law_script", "_law_names"] (spLcmp K ns 6 500) := by
  refine D.ok sc_law_condition (fun vs H Q E h => ?_) (fun f cdv A outer s H vs Q E hr h => ?_)
  · obtain ⟨st, sc, nm, xs, rfl, _⟩ := h
    rfl
  obtain ⟨st, sc, nm, xs, rfl, G, N, q⟩ := h
  refine ⟨_, (pss_cons (ps_set (i := 3) sc_law_condition.nd rfl (by first | exact Or.inl rfl | exact Or.inr rfl) (pe_kn G_law_next hr (pa_cons (pv 0) (pa_cons (pv 1) (pa_cons pe_int pa_nil)))))
    (pss_cons (ps_if (pt_cmpR op_lt (pv 3) pe_int (nomark _)) (pss_one (ps_ret (pe_kn G_law_comparison hr (pa_cons (pv 0) (pa_cons (pv 1) (pa_cons (pv 2) pa_nil)))))) pss_nil)
    (pss_cons (ps_set (i := 4) sc_law_condition.nd rfl (by first | exact Or.inl rfl | exact Or.inr rfl) (pe_kn G_law_comparison hr (pa_cons (pv 0) (pa_cons (pv 1) (pa_cons (pv 2) pa_nil)))))
    (pss_cons (ps_set (i := 5) sc_law_condition.nd rfl (by first | exact Or.inl rfl | exact Or.inr rfl) (pe_tup (pa_cons (pe_ix ix_list (pe_lst (pa_cons pe_str (pa_cons pe_str pa_nil))) (pe_op op_sub (pv 3) pe_int) (fun _ _ => rfl)) (pa_cons (pv 4) (pa_cons (pe_kn G_law_comparison hr (pa_cons (pv 0) (pa_cons (pv 1) (pa_cons (pv 2) pa_nil)))) pa_nil)))))
    (pss_cons (ps_if (pt_cmpR op_eq (pe_kn G_law_next hr (pa_cons (pv 0) (pa_cons (pv 1) (pa_cons pe_int pa_nil)))) pe_int (nomark _)) (pss_one (ps_ret (pe_tup (pa_cons pe_str (pa_cons (pv 5) pa_nil))))) pss_nil)
    (pss_one (ps_ret (pv 5)))))))), ?_⟩
  refine ⟨_, rfl, _, rfl, st, sc, _, rfl, by decide, by decide, G, fun r1 H1 k1 G1 a1 a2 => ?_⟩
  have N1 := N.keep k1
  refine ⟨_, rfl, _, _, rfl, rfl, _, rfl, ?_⟩
  refine ite2 (fun hx => ?_) (fun hx => ?_)
  · exact ⟨_, rfl, _, rfl, _, rfl, st, sc, nm, xs, rfl, G1, N1, fun u e H2 k2 G2 q1 p1 => q _ _ _ (k1.trans k2) G2 q1 (p1.mono (by omega) (by omega))⟩
  have hx4 : 4 ≤ r1 := by
    have : ¬ r1 < 4 := fun h => hx (decide_eq_true h)
    omega
  refine ⟨_, rfl, _, rfl, _, rfl, st, sc, nm, xs, rfl, G1, N1, fun u1 e1 H2 k2 G2 q1 p1 => ?_⟩
  have N2 := N1.keep k2
  refine ⟨small_le (by simp), fun l hl => ?_⟩
  have k3 : Kp none H2 (upd H2 l (.lst (bops.map V.str))) := (Kp.refl _).new hl
  obtain ⟨sg, hsg, hat⟩ := at_str (xs := bops) (r := r1 - 4) (by omega) (by have e : bops.length = 2 := rfl; omega)
  refine ⟨_, rfl, _, _, rfl, rfl, _, _, _, _, rfl, rfl, .inl (.inl upd_same), hat, ?_⟩
  have G3 := G2.keep k3
  have N3 := N2.keep k3.up
  refine ⟨_, rfl, _, rfl, _, rfl, _, rfl, st, sc, nm, xs, rfl, G3, N3, fun u2 e2 H4 k4 G4 q2 p2 => ?_⟩
  refine ⟨small_le (by simp), fun t htn => ?_⟩
  have k5 : Kp none H4 (upd H4 t (.tup [.str sg, u1, u2])) := (Kp.refl _).new htn
  have rC : Rp K (upd H4 t (.tup [.str sg, u1, u2])) (.ref t) (.tuple [.str sg, e1, e2]) := Rp.mk htn (.cons (.str _) (.cons (q1.mono (k3.tle.trans k4.tle)) (.cons q2 .nil)))
  have pC : Pn 5 478 (.tuple [.str sg, e1, e2]) := (Pn.tup (.cons (tag_p (by simp [hsg])) (.cons p1 (.cons p2 .nil)))).mono (by omega) (by omega)
  have kA := (((k1.trans k2).trans k3.up).trans k4).trans k5.up
  refine ⟨_, rfl, _, rfl, st, sc, _, rfl, by decide, by decide, G4.keep k5, fun r6 H6 k6 G6 c1 c2 => ?_⟩
  refine ⟨rfl, _, rfl, ?_⟩
  refine ite2 (fun hx => ?_) (fun hx => ?_)
  · refine ⟨_, rfl, small_le (by simp), fun t2 ht2 => ?_⟩
    have k7 : Kp none H6 (upd H6 t2 (.tup [.str "not", .ref t])) := (Kp.refl _).new ht2
    refine q _ (.tuple [.str "not", .tuple [.str sg, e1, e2]]) _ ((kA.trans k6).trans k7.up) (G6.keep k7) (Rp.mk ht2 (.cons (.str _) (.cons (rC.mono k6.tle) .nil))) ?_
    exact (Pn.tup (.cons (tag_p (by simp [tags])) (.cons pC .nil))).mono (by omega) (by omega)
  · exact ⟨_, rfl, q _ _ _ (kA.trans k6) G6 (rC.mono k6.tle) (pC.mono (by omega) (by omega))⟩
end
end Cl

/-! Carryclaim, the law's own defs: _law_counting, _law_block. -/
namespace Cl
open PySem PySem.Spec PyProof.Rows L2
theorem Pn.pay {n L : Nat} {d : PyData} (h : Pn n L d) (h1 : n ≤ 12) (h2 : L ≤ 1500) : Pay d := ⟨h.sh, h.nd, Nat.le_trans h.dep h1, Nat.le_trans h.len h2⟩
/-- names and procedures that a generated statement may use -/
structure Wd (K : PySem.W.Frag) (st wd nm pc : Addr) (xs : List Str) (ps : List (Str × Nat)) (H : Hp) : Prop where
  wt : SqT K H wd [.ref nm, .ref pc]
  nmo : Nm K st nm xs H
  pco : ∃ vs, SqL K H pc vs ∧ RpA K H vs (ps.map fun p => .tuple [.str p.1, .int ((p.2 : Nat) : Int)])
  pne : some pc ≠ some st
  pn : ∀ p ∈ ps, p.1 ∈ PN ∧ p.2 ≤ 2
  p1 : ps ≠ []
  p2 : ps.length ≤ 10
theorem Wd.keep {K : PySem.W.Frag} {st wd nm pc : Addr} {xs : List Str} {ps : List (Str × Nat)} {H H' : Hp} (h : Wd K st wd nm pc xs ps H) (k : Kp (some st) H H') : Wd K st wd nm pc xs ps H' := by
  obtain ⟨vs, h1, h2⟩ := h.pco
  exact ⟨k.tle.seqT h.wt, h.nmo.keep k, ⟨vs, k.lst h1 h.pne, h2.mono k.tle⟩, h.pne, h.pn, h.p1, h.p2⟩
def cS : Nat → Nat
  | 0 => 1
  | n + 1 => 1 + 2 * (3 * cS n)
theorem cS_pos : ∀ n, 1 ≤ cS n
  | 0 => Nat.le_refl _
  | n + 1 => by simp only [cS]; omega
structure WS (n : Nat) (s : Stm) : Prop where
  dep : depS s ≤ n
  cnt : (allS s).length ≤ cS n
  pay : ∀ z ∈ allS s, PayS z
structure WB (n c : Nat) (b : List Stm) : Prop where
  dep : depL b ≤ n
  cnt : (allL b).length ≤ c
  pay : ∀ z ∈ allL b, PayS z
theorem depL_app : ∀ (a b : List Stm), depL (a ++ b) = max (depL a) (depL b)
  | [], b => by simp [depL]
  | x :: a, b => by simp only [List.cons_append, depL, depL_app a b]; omega
theorem WB.app {n c d : Nat} {a b : List Stm} (h : WB n c a) (k : WB n d b) : WB n (c + d) (a ++ b) := by
  refine ⟨?_, ?_, fun z hz => ?_⟩
  · have := h.dep; have := k.dep; rw [depL_app]; omega
  · have := h.cnt; have := k.cnt; rw [allL_append, List.length_append]; omega
  · rw [allL_append] at hz
    rcases List.mem_append.mp hz with hz | hz
    · exact h.pay z hz
    · exact k.pay z hz
theorem WB.one {n : Nat} {s : Stm} (h : WS n s) : WB n (cS n) [s] := by
  refine ⟨?_, ?_, fun z hz => ?_⟩
  · have := h.dep; simp only [depL]; omega
  · have := h.cnt; simp only [allL, List.append_nil]; omega
  · simp only [allL, List.append_nil] at hz
    exact h.pay z hz
theorem WB.mono {n m c d : Nat} {b : List Stm} (h : WB n c b) (h1 : n ≤ m) (h2 : c ≤ d) : WB m d b := ⟨Nat.le_trans h.dep h1, Nat.le_trans h.cnt h2, h.pay⟩
theorem WB.nil {n c : Nat} : WB n c [] := ⟨by simp [depL], by simp [allL], fun z hz => by simp [allL] at hz⟩
theorem WS.leaf {n : Nat} {s : Stm} (h1 : blks s = []) (h2 : depS s = 0) (h : PayS s) : WS n s := by
  have e : allS s = [s] := by rw [allS_blks, h1]; simp
  refine ⟨by omega, ?_, fun z hz => ?_⟩
  · rw [e]; exact cS_pos n
  · rw [e] at hz; rw [List.mem_singleton.mp hz]; exact h
theorem WS.loop {n c : Nat} {d : PyData} {b : List Stm} (h : WB n c b) (hc : c ≤ 2 * (3 * cS n)) (hd : Pay d) : WS (n + 1) (.loop d b) := by
  refine ⟨?_, ?_, fun z hz => ?_⟩
  · have := h.dep; simp only [depS]; omega
  · have := h.cnt; simp only [allS, List.length_cons, cS]; omega
  · simp only [allS, List.mem_cons] at hz
    rcases hz with rfl | hz
    · exact hd
    · exact h.pay z hz
theorem WS.ite {n : Nat} {d : PyData} {a b : List Stm} (h : WB n (3 * cS n) a) (k : WB n (3 * cS n) b) (hd : Pay d) : WS (n + 1) (.ite d a b) := by
  refine ⟨?_, ?_, fun z hz => ?_⟩
  · have := h.dep; have := k.dep; simp only [depS]; omega
  · have := h.cnt; have := k.cnt; simp only [allS, List.length_cons, List.length_append, cS]; omega
  · simp only [allS, List.mem_cons, List.mem_append] at hz
    rcases hz with rfl | hz | hz
    · exact hd
    · exact h.pay z hz
    · exact k.pay z hz
def spLst (K : PySem.W.Frag) (ns : List Int) (n : Nat) : Sp := fun vs H Q _ => ∃ (st sc wd nm pc : Addr) (xs : List Str) (ps : List (Str × Nat)), vs = [.ref st, .ref sc, .ref wd, .int ((n : Nat) : Int)] ∧ Gn K ns st sc H ∧ Wd K st wd nm pc xs ps H ∧
  ∀ u s H', Kp (some st) H H' → Gn K ns st sc H' → Rp K H' u (encS s) → WS n s → Q u H'
def spLcn (K : PySem.W.Frag) (ns : List Int) (n : Nat) : Sp := fun vs H Q _ => ∃ (st sc wd nm pc : Addr) (xs : List Str) (ps : List (Str × Nat)), vs = [.ref st, .ref sc, .ref wd, .int ((n : Nat) : Int)] ∧ Gn K ns st sc H ∧ Wd K st wd nm pc xs ps H ∧ xs ≠ [] ∧
  ∀ u s H', Kp (some st) H H' → Gn K ns st sc H' → Rp K H' u (encS s) → WS n s → Q u H'
def spLblk (K : PySem.W.Frag) (ns : List Int) (n : Nat) : Sp := fun vs H Q _ => ∃ (st sc wd nm pc : Addr) (xs : List Str) (ps : List (Str × Nat)), vs = [.ref st, .ref sc, .ref wd, .int ((n : Nat) : Int)] ∧ Gn K ns st sc H ∧ Wd K st wd nm pc xs ps H ∧
  ∀ u b H', Kp (some st) H H' → Gn K ns st sc H' → Rp K H' u (encB b) → WB n (3 * cS n) b → b.length ≤ 3 → Q u H'
def rel3 : List Str := ["<", "<=", "!="]
theorem rel3_in : ∀ x ∈ rel3, x ∈ signs ++ rels ++ bops ++ tags := by decide +kernel
section
variable {P : Program} {w : World} {K : PySem.W.Frag} {mg : Str → Option Value} {base : Heap} {ns : List Int}
abbrev s_law_counting : Stmt := top 39
abbrev N_law_counting : List Str := ["_law_state", "_law_script", "_law_world", "_law_depth", "_law_name", "_law_block_here", "_law_more", "_law_bound", "_law_names", "_law_procedures"]
theorem sc_law_counting : FnScope N_law_counting ["_law_state", "_law_script", "_law_world", "_law_depth"] (defScope s_law_counting) := ⟨rfl, rfl, rfl, by decide +kernel, rfl, by decide +kernel, by decide +kernel⟩
theorem ok_law_counting {n : Nat} (T : Bl mg) (D : Df K mg "_law_counting" s_law_counting ["_law_state", "_law_script", "_law_world", "_law_depth"]) (G_law_next : Anext P w K mg base ns)
    (G_law_block : Kn P w K mg base (8 + 3 * n) "_law_block" ["_law_state", "_law_script", "_law_world", "_law_depth"] (spLblk K ns n)) :
    Kn P w K mg base (9 + 3 * n) "_law_counting" ["_law_state", "_law_script", "_law_world", "_law_depth"] (spLcn K ns (n + 1)) := by
  refine (show Kn P w K mg base ((8 + 3 * n) + 1) "_law_counting" ["_law_state", "_law_script", "_law_world", "_law_depth"] (spLcn K ns (n + 1)) from ?_).mono (by omega)
  refine D.ok sc_law_counting (fun vs H Q E h => ?_) (fun f cdv A outer s H vs Q E hr h => ?_)
  · obtain ⟨st, sc, wd, nm, pc, xs, ps, rfl, _⟩ := h
    rfl
  obtain ⟨st, sc, wd, nm, pc, xs, ps, rfl, G, W, hne, q⟩ := h
  refine ⟨_, (pss_cons (ps_asg (pv 2) (pg_tup rfl (pgs_cons (pg_name (i := 8) sc_law_counting.nd rfl (by first | exact Or.inl rfl | exact Or.inr rfl)) (pgs_cons (pg_name (i := 9) sc_law_counting.nd rfl (by first | exact Or.inl rfl | exact Or.inr rfl)) pgs_nil))))
    (pss_cons (ps_set (i := 4) sc_law_counting.nd rfl (by first | exact Or.inl rfl | exact Or.inr rfl) (pe_ix ix_list (pv 8) (pe_kn G_law_next hr (pa_cons (pv 0) (pa_cons (pv 1) (pa_cons (pe_callB call_len_seq (by rfl) T.len (by decide +kernel) (pa_cons (pv 8) pa_nil)) pa_nil))) (by omega)) (fun _ _ => rfl)))
    (pss_cons (ps_asg (pe_op op_sub (pe_ix ix_list (pv 0) pe_int (fun _ _ => rfl)) pe_int) (pg_sub (pv 0) pe_int set_list))
    (pss_cons (ps_set (i := 5) sc_law_counting.nd rfl (by first | exact Or.inl rfl | exact Or.inr rfl) (pe_kn G_law_block hr (pa_cons (pv 0) (pa_cons (pv 1) (pa_cons (pv 2) (pa_cons (pe_op op_sub (pv 3) pe_int) pa_nil)))) (by omega)))
    (pss_cons (ps_set (i := 6) sc_law_counting.nd rfl (by first | exact Or.inl rfl | exact Or.inr rfl) (pe_tup (pa_cons pe_str (pa_cons (pv 4) (pa_cons (pe_tup (pa_cons pe_str (pa_cons pe_str (pa_cons (pe_tup (pa_cons pe_str (pa_cons (pv 4) pa_nil))) (pa_cons (pe_tup (pa_cons pe_str (pa_cons (pe_op op_add pe_int (pe_kn G_law_next hr (pa_cons (pv 0) (pa_cons (pv 1) (pa_cons pe_int pa_nil))) (by omega))) pa_nil))) pa_nil))))) pa_nil)))))
    (pss_cons (ps_set (i := 7) sc_law_counting.nd rfl (by first | exact Or.inl rfl | exact Or.inr rfl) (pe_tup (pa_cons pe_str (pa_cons (pe_op op_add pe_int (pe_kn G_law_next hr (pa_cons (pv 0) (pa_cons (pv 1) (pa_cons pe_int pa_nil))) (by omega))) pa_nil))))
    (pss_one (ps_ret (pe_tup (pa_cons pe_str (pa_cons (pe_tup (pa_cons pe_str (pa_cons (pe_ix ix_list (pe_lst (pa_cons pe_str (pa_cons pe_str (pa_cons pe_str pa_nil)))) (pe_kn G_law_next hr (pa_cons (pv 0) (pa_cons (pv 1) (pa_cons pe_int pa_nil))) (by omega)) (fun _ _ => rfl)) (pa_cons (pe_tup (pa_cons pe_str (pa_cons (pv 4) pa_nil))) (pa_cons (pv 7) pa_nil))))) (pa_cons (pe_op op_catA (pv 5) (pe_tup (pa_cons (pv 6) pa_nil))) pa_nil)))))))))))), ?_⟩
  refine ⟨_, rfl, wd, _, rfl, W.wt, rfl, _, _, rfl, _, _, rfl, rfl, ?_⟩
  have hx0 : 0 < xs.length := List.length_pos_iff.mpr hne
  have hx1 := W.nmo.len
  refine ⟨_, rfl, _, rfl, _, rfl, _, rfl, _, _, rfl, .inl W.nmo.sq, st, sc, _, rfl, ?_, ?_, G, fun r1 H1 k1 G1 b1 b2 => ?_⟩
  · rw [List.length_map]; omega
  · rw [List.length_map]; omega
  rw [List.length_map] at b2
  obtain ⟨x, hx, hat⟩ := at_str b1 b2
  have W1 := W.keep k1
  refine ⟨_, _, _, _, rfl, rfl, W1.nmo.sq, hat, ?_⟩
  obtain ⟨a, b, c, d, hst, ha⟩ := G1.s4
  obtain ⟨G2, k2⟩ := G1.upd (a := a) (b := b) (c := c) (d := d - 1) ha
  refine ⟨_, rfl, _, _, _, _, rfl, rfl, .inl (.inl hst), rfl, _, _, rfl, rfl, _, rfl, _, _, _, 3, rfl, rfl, hst, rfl, ?_⟩
  have W2 := W1.keep k2
  refine ⟨_, rfl, _, rfl, _, rfl, _, rfl, _, _, rfl, rfl, st, sc, wd, nm, pc, xs, ps, congrArg (fun z => [V.ref st, V.ref sc, V.ref wd, z]) (sub1 n), G2, W2, fun ub bb H3 k3 G3 qb wb hb3 => ?_⟩
  have W3 := W2.keep k3
  refine ⟨_, rfl, _, rfl, small_le (by simp), fun t1 h1 => ?_⟩
  have k4 : Kp none H3 (upd H3 t1 (.tup [.str "name", .str x])) := (Kp.refl _).new h1
  refine ⟨_, rfl, _, rfl, st, sc, _, rfl, by decide, by decide, G3.keep k4, fun r5 H5 k5 G5 c1 c2 => ?_⟩
  refine ⟨_, _, rfl, rfl, small_le (by simp), fun t2 h2 => ⟨small_le (by simp), fun t3 h3 => ⟨small_le (by simp), fun t4 h4 => ?_⟩⟩⟩
  have R1 : Rp K (upd H3 t1 (.tup [.str "name", .str x])) (.ref t1) (.tuple [.str "name", .str x]) := Rp.mk h1 (.cons (.str _) (.cons (.str _) .nil))
  have K2 := (Kp.refl (m := none) H5).new (o := .tup [.str "number", .int (1 + r5)]) h2
  have R2 : Rp K (upd H5 t2 (.tup [.str "number", .int (1 + r5)])) (.ref t2) (.tuple [.str "number", .int (1 + r5)]) := Rp.mk h2 (.cons (.str _) (.cons (.int _) .nil))
  have R3 := Rp.mk h3 (.cons (.str "op") (.cons (.str "+") (.cons (R1.mono (k5.tle.trans K2.tle)) (.cons R2 .nil))))
  have R4 := Rp.mk h4 (.cons (.str "set") (.cons (.str x) (.cons R3 .nil)))
  have K4 := (K2.new (o := .tup [.str "op", .str "+", .ref t1, .ref t2]) h3).new (o := .tup [.str "set", .str x, .ref t3]) h4
  have k34 := k4.up.trans (k5.trans K4.up)
  have p1 : Pn 1 24 (.tuple [.str "name", .str x]) := (Pn.tup (n := 0) (.cons (tag_p (by simp [tags])) (.cons (.str (NM_repr x (W.nmo.mem x hx))) .nil))).mono (by omega) (by omega)
  have p2 : Pn 1 24 (.tuple [.str "number", .int (1 + r5)]) := (Pn.tup (n := 0) (.cons (tag_p (by simp [tags])) (.cons (.int (by omega)) .nil))).mono (by omega) (by omega)
  have p3 : Pay (.tuple [.str "op", .str "+", .tuple [.str "name", .str x], .tuple [.str "number", .int (1 + r5)]]) := (Pn.tup (.cons (tag_p (by simp [tags])) (.cons (tag_p (by simp [signs])) (.cons p1 (.cons p2 .nil))))).pay (by omega) (by omega)
  have G6 := G5.keep K4
  refine ⟨_, rfl, _, rfl, st, sc, _, rfl, by decide, by decide, G6, fun r7 H7 k7 G7 d1 d2 => ?_⟩
  refine ⟨_, _, rfl, rfl, small_le (by simp), fun t5 h5 => ?_⟩
  have K5 := (Kp.refl (m := none) H7).new (o := .tup [.str "number", .int (1 + r7)]) h5
  have R5 : Rp K (upd H7 t5 (.tup [.str "number", .int (1 + r7)])) (.ref t5) (.tuple [.str "number", .int (1 + r7)]) := Rp.mk h5 (.cons (.str _) (.cons (.int _) .nil))
  have p5 : Pn 1 24 (.tuple [.str "number", .int (1 + r7)]) := (Pn.tup (n := 0) (.cons (tag_p (by simp [tags])) (.cons (.int (by omega)) .nil))).mono (by omega) (by omega)
  refine ⟨small_le (by simp), fun l hl => ?_⟩
  have Kl := K5.new (o := .lst (rel3.map V.str)) hl
  have Gl := G7.keep Kl
  have nl := new_ne (G7.keep K5) hl
  refine ⟨_, rfl, _, rfl, st, sc, _, rfl, by decide, by decide, Gl, fun r8 H8 k8 G8 e1 e2 => ?_⟩
  obtain ⟨rl, hrl, hat2⟩ := at_str (xs := rel3) e1 e2
  have hl2 : H8 l = some (.lst (rel3.map V.str)) := k8.of upd_same nl
  refine ⟨_, _, _, _, rfl, rfl, .inl (.inl hl2), hat2, ?_⟩
  refine ⟨_, rfl, small_le (by simp), fun t6 h6 => ⟨_, rfl, small_le (by simp), fun t7 h7 => ⟨_, rfl, _, rfl, small_le (by simp), fun t8 h8 => ?_⟩⟩⟩
  have R6 : Rp K (upd H8 t6 (.tup [.str "name", .str x])) (.ref t6) (.tuple [.str "name", .str x]) := Rp.mk h6 (.cons (.str _) (.cons (.str _) .nil))
  have K6 := (Kp.refl (m := none) H8).new (o := .tup [.str "name", .str x]) h6
  have T58 : TLe (upd H7 t5 (.tup [.str "number", .int (1 + r7)])) (upd H8 t6 (.tup [.str "name", .str x])) := ((TLe.new hl).trans k8.tle).trans K6.tle
  have R7 := Rp.mk h7 (.cons (.str "compare") (.cons (.str rl) (.cons R6 (.cons (R5.mono T58) .nil))))
  have K7 := K6.new (o := .tup [.str "compare", .str rl, .ref t6, .ref t5]) h7
  have T48 : TLe (upd (upd (upd H5 t2 (.tup [.str "number", .int (1 + r5)])) t3 (.tup [.str "op", .str "+", .ref t1, .ref t2])) t4 (.tup [.str "set", .str x, .ref t3])) (upd (upd H8 t6 (.tup [.str "name", .str x])) t7 (.tup [.str "compare", .str rl, .ref t6, .ref t5])) :=
    ((k7.tle.trans Kl.tle).trans k8.tle).trans K7.tle
  have R8 := Rp.mk h8 (.cons (R4.mono T48) .nil)
  have K8 := K7.new (o := .tup [.ref t4]) h8
  have qb8 := qb.mono (((k34.tle.trans (k7.tle.trans Kl.tle)).trans k8.tle).trans K8.tle)
  have pR : Pay (.tuple [.str "compare", .str rl, .tuple [.str "name", .str x], .tuple [.str "number", .int (1 + r7)]]) := (Pn.tup (.cons (tag_p (by simp [tags])) (.cons (tag_p (rel3_in rl hrl)) (.cons p1 (.cons p5 .nil))))).pay (by omega) (by omega)
  have es : encS (Stm.set x (.tuple [.str "op", .str "+", .tuple [.str "name", .str x], .tuple [.str "number", .int (1 + r5)]])) = .tuple [.str "set", .str x, .tuple [.str "op", .str "+", .tuple [.str "name", .str x], .tuple [.str "number", .int (1 + r5)]]] := by simp only [encS]
  have ws : WS n (.set x (.tuple [.str "op", .str "+", .tuple [.str "name", .str x], .tuple [.str "number", .int (1 + r5)]])) := .leaf rfl (by simp only [depS]) ⟨W.nmo.mem x hx, p3⟩
  rw [← es] at R8
  refine cat_ok qb8 R8 ?_ fun u9 H9 k9 r9 => ?_
  · rw [List.length_map]; simp only [List.length_cons, List.length_nil]; omega
  refine ⟨small_le (by simp), fun t9 h9 => ?_⟩
  have K9 := (Kp.refl (m := none) H9).new (o := .tup [.str "while", .ref t7, u9]) h9
  have e9 : bb.map encS ++ [encS (Stm.set x (.tuple [.str "op", .str "+", .tuple [.str "name", .str x], .tuple [.str "number", .int (1 + r5)]]))] = (bb ++ [Stm.set x (.tuple [.str "op", .str "+", .tuple [.str "name", .str x], .tuple [.str "number", .int (1 + r5)]])]).map encS := by simp
  rw [e9] at r9
  have R9 := Rp.mk h9 (.cons (.str "while") (.cons (R7.mono ((TLe.new h8).trans k9.tle)) (.cons r9 .nil)))
  rw [← encS_loop] at R9
  refine q _ _ _ (((((((k1.trans k2).trans k3).trans k34).trans k7).trans Kl.up).trans k8).trans ((K8.trans k9).trans K9).up) ((G8.keep ((K8.trans k9).trans K9))) R9 ?_
  exact .loop (wb.app (.one ws)) (by have := cS_pos n; omega) pR
end
end Cl

/-! Carryclaim, the law's own defs: _law_block. -/
namespace Cl
open PySem PySem.Spec PyProof.Rows L2
/-- a new list changes: the state stands -/
theorem Gn.put {K : PySem.W.Frag} {ns : List Int} {st sc o : Addr} {H H' : Hp} {x : HO} (G0 : Gn K ns st sc H) (G : Gn K ns st sc H') (k : Kp (some st) H (L2.upd H' o x)) (n1 : o ≠ st) : Gn K ns st sc (L2.upd H' o x) := by
  obtain ⟨a, b, c, d, hst, ha⟩ := G.s4
  exact ⟨⟨a, b, c, d, by rw [upd_ne n1.symm]; exact hst, ha⟩, G0.sqk k, G0.ne, G0.len⟩
section
variable {P : Program} {w : World} {K : PySem.W.Frag} {mg : Str → Option Value} {base : Heap} {ns : List Int}
abbrev s_law_block : Stmt := top 41
abbrev N_law_block : List Str := ["_law_state", "_law_script", "_law_world", "_law_depth", "_law_block_here", "_law_k"]
theorem sc_law_block : FnScope N_law_block ["_law_state", "_law_script", "_law_world", "_law_depth"] (defScope s_law_block) := ⟨rfl, rfl, rfl, by decide +kernel, rfl, by decide +kernel, by decide +kernel⟩
theorem ok_law_block {n : Nat} (T : Bl mg) (D : Df K mg "_law_block" s_law_block ["_law_state", "_law_script", "_law_world", "_law_depth"]) (G_law_next : Anext P w K mg base ns)
    (G_law_statement : Kn P w K mg base (7 + 3 * n) "_law_statement" ["_law_state", "_law_script", "_law_world", "_law_depth"] (spLst K ns n)) :
    Kn P w K mg base (8 + 3 * n) "_law_block" ["_law_state", "_law_script", "_law_world", "_law_depth"] (spLblk K ns n) := by
  refine (show Kn P w K mg base ((7 + 3 * n) + 1) "_law_block" ["_law_state", "_law_script", "_law_world", "_law_depth"] (spLblk K ns n) from ?_).mono (by omega)
  refine D.ok sc_law_block (fun vs H Q E h => ?_) (fun f cdv A outer s H vs Q E hr h => ?_)
  · obtain ⟨st, sc, wd, nm, pc, xs, ps, rfl, _⟩ := h
    rfl
  obtain ⟨st, sc, wd, nm, pc, xs, ps, rfl, G, W, q⟩ := h
  refine ⟨_, (pss_cons (ps_set (i := 4) sc_law_block.nd rfl (by first | exact Or.inl rfl | exact Or.inr rfl) (pe_lst pa_nil))
    (pss_cons (ps_for PassesOwn.never rfl (pi_range1 (by rfl) T.range (pa_cons (pe_kn G_law_next hr (pa_cons (pv 0) (pa_cons (pv 1) (pa_cons pe_int pa_nil))) (by omega)) pa_nil)) (pg_name (i := 5) sc_law_block.nd rfl (by first | exact Or.inl rfl | exact Or.inr rfl)) (pss_one (ps_if (pt_cmpR op_gt (pe_ix ix_list (pv 0) pe_int (fun _ _ => rfl)) pe_int (nomark _)) (pss_cons (ps_asg (pe_op op_sub (pe_ix ix_list (pv 0) pe_int (fun _ _ => rfl)) pe_int) (pg_sub (pv 0) pe_int set_list))
        (pss_one (ps_expr (pe_bm PySem.F.plainAttrs_list PySem.F.slot_list_append PySem.F.type_list_append mt_append (pv 4) (pa_cons (pe_kn G_law_statement hr (pa_cons (pv 0) (pa_cons (pv 1) (pa_cons (pv 2) (pa_cons (pv 3) pa_nil)))) (by omega)) pa_nil))))) pss_nil)))
    (pss_one (ps_ret (pe_callTy call_tuple_of (by rfl) T.tuple (by decide +kernel) (pa_cons (pv 4) pa_nil)))))), ?_⟩
  refine ⟨Nat.zero_le _, fun o ho => ?_⟩
  have k0 : Kp none H (upd H o (.lst [])) := (Kp.refl _).new ho
  have no := new_ne G ho
  have no1 : o ≠ st := fun e => no (by rw [e])
  refine ⟨_, rfl, _, rfl, st, sc, _, rfl, by decide, by decide, G.keep k0, fun r1 H1 k1 G1 b1 b2 => ?_⟩
  have ho1 : H1 o = some (.lst []) := k1.of upd_same no
  have lt62 : ∀ z : Int, z < 4 → z < 2 ^ 62 := fun z h => Int.lt_trans h (by decide)
  have ge62 : ∀ z : Int, 0 ≤ z → -(2 ^ 62) ≤ z := fun z h => Int.le_trans (by decide) h
  refine ⟨r1, rfl, ge62 _ b1, lt62 _ b2, for_range (fun i σ' H' => (∃ y, σ' = [some (.ref st), some (.ref sc), some (.ref wd), some (.int ((n : Nat) : Int)), some (.ref o), y]) ∧ Kp (some st) H H' ∧ Gn K ns st sc H' ∧
      ∃ b : List Stm, Ls K H' o (b.map encS) ∧ WB n (i * cS n) b ∧ b.length ≤ i) ⟨⟨_, rfl⟩, k0.up.trans k1, G1, [], ⟨[], ho1, .nil⟩, WB.nil, Nat.le_refl _⟩ ?_ ?_⟩
  · rintro i σ' H' hi ⟨⟨y, rfl⟩, k2, G2, b, ⟨vs, hvs, rvs⟩, wb, hb⟩
    obtain ⟨a, b', c, d, hst, ha⟩ := G2.s4
    refine ⟨_, rfl, _, _, _, _, rfl, rfl, .inl (.inl hst), rfl, _, _, rfl, rfl, _, rfl, ?_⟩
    refine ite2 (fun hx => ?_) (fun hx => ?_)
    · obtain ⟨G3, k3⟩ := G2.upd (a := a) (b := b') (c := c) (d := d - 1) ha
      refine ⟨_, rfl, _, _, _, _, rfl, rfl, .inl (.inl hst), rfl, _, _, rfl, rfl, _, rfl, _, _, _, 3, rfl, rfl, hst, rfl, ?_⟩
      have hv3 := k3.of hvs no
      refine ⟨_, rfl, .inl ⟨rfl, _, .inl (.inl hv3)⟩, _, rfl, _, rfl, _, rfl, _, rfl, st, sc, wd, nm, pc, xs, ps, rfl, G3, W.keep (k2.trans k3), fun u z H4 k4 G4 q4 w4 => ?_⟩
      have hv4 := k4.of hv3 no
      have hvl := rvs.len
      rw [List.length_map] at hvl
      refine ⟨o, vs, u, rfl, rfl, hv4, small_lt (by omega), ?_⟩
      have kp := ((k2.trans k3).trans k4).put (o := .lst (vs ++ [u])) ho
      refine ⟨⟨_, rfl⟩, kp, G.put G4 kp no1, b ++ [z], ⟨vs ++ [u], upd_same, ?_⟩, ?_, ?_⟩
      · rw [List.map_append]
        exact ((rvs.mono (k3.tle.trans k4.tle)).snoc q4).mono (TLe.put hv4)
      · refine (wb.app (.one w4)).mono (Nat.le_refl _) ?_
        rw [Nat.add_mul]; omega
      · rw [List.length_append]; simp only [List.length_cons, List.length_nil]; omega
    · exact ⟨⟨_, rfl⟩, k2, G2, b, ⟨vs, hvs, rvs⟩, wb.mono (Nat.le_refl _) (Nat.mul_le_mul (by omega) (Nat.le_refl _)), by omega⟩
  · rintro σ' H' ⟨⟨y, rfl⟩, k2, G2, b, ⟨vs, hvs, rvs⟩, wb, hb⟩
    have hr3 : r1.toNat ≤ 3 := by omega
    refine ⟨_, rfl, o, vs, rfl, .inl ⟨.inl (.inl hvs), fun t htn => ?_⟩⟩
    exact q _ _ _ (k2.trans ((Kp.refl _).new htn).up) (G2.keep ((Kp.refl _).new htn)) (Rp.mk htn rvs) (wb.mono (Nat.le_refl _) (Nat.mul_le_mul hr3 (Nat.le_refl _))) (by omega)
end
end Cl

/-! Carryclaim, the law's own defs: _law_statement. -/
namespace Cl
open PySem PySem.Spec PyProof.Rows L2
theorem ite_join {c : Bool} {A R : Prop} (hR : R) (hA : c = true → R → A) : if c = true then A else R := by
  by_cases h : c = true
  · rw [if_pos h]; exact hA h hR
  · rw [if_neg h]; exact hR
theorem Pa.of_all {n M : Nat} : ∀ {ds : List PyData}, (∀ d ∈ ds, Pn n M d) → Pa n (ds.length * (M + 2)) ds
  | [], _ => ⟨by simp [PyData.showableAll], by simp [PyData.hasDictAll], by simp [PyData.depthAll], by simp [PyData.shownAll, PySem.piled]⟩
  | d :: ds, h => by
    have t := Pa.of_all (ds := ds) fun x hx => h x (List.mem_cons_of_mem _ hx)
    have c := Pa.cons (h d List.mem_cons_self) t
    refine ⟨c.sh, c.nd, c.dep, Nat.le_trans c.len ?_⟩
    rw [List.length_cons, Nat.add_mul]
    omega
theorem at_any {vs : List V} {r : Int} (h0 : 0 ≤ r) (h : r < ((vs.length : Nat) : Int)) : ∃ (v : V) (i : Nat), vs[i]? = some v ∧ atI vs r = some v := by
  have h2 : r.toNat < vs.length := by omega
  refine ⟨vs[r.toNat], r.toNat, List.getElem?_eq_getElem h2, ?_⟩
  have := atI_nat (j := r.toNat) (List.getElem?_eq_getElem h2)
  rwa [Int.toNat_of_nonneg h0] at this
section
variable {P : Program} {w : World} {K : PySem.W.Frag} {mg : Str → Option Value} {base : Heap} {ns : List Int}
abbrev s_law_statement : Stmt := top 40
abbrev N_law_statement : List Str := ["_law_state", "_law_script", "_law_world", "_law_depth", "_law_choice", "_law_name", "_law_names", "_law_procedures", "_law_condition_here", "_law_first", "_law_values", "_law_target", "_law_count", "_law_k"]
theorem sc_law_statement : FnScope N_law_statement ["_law_state", "_law_script", "_law_world", "_law_depth"] (defScope s_law_statement) := ⟨rfl, rfl, rfl, by decide +kernel, rfl, by decide +kernel, by decide +kernel⟩
theorem ok_law_statement {n : Nat} (T : Bl mg) (D : Df K mg "_law_statement" s_law_statement ["_law_state", "_law_script", "_law_world", "_law_depth"]) (G_law_next : Anext P w K mg base ns)
    (G_e1 : Kn P w K mg base 4 "_law_expression" ["_law_state", "_law_script", "_law_names", "_law_depth"] (spLexp K ns 1))
    (G_e2 : Kn P w K mg base 5 "_law_expression" ["_law_state", "_law_script", "_law_names", "_law_depth"] (spLexp K ns 2))
    (G_law_condition : Kn P w K mg base 6 "_law_condition" ["_law_state", "_law_script", "_law_names"] (spLcmp K ns 6 500))
    (G_law_counting : Kn P w K mg base (6 + 3 * n) "_law_counting" ["_law_state", "_law_script", "_law_world", "_law_depth"] (fun vs H Q E => ∃ j, n = j + 1 ∧ spLcn K ns (j + 1) vs H Q E))
    (G_law_block : Kn P w K mg base (6 + 3 * n) "_law_block" ["_law_state", "_law_script", "_law_world", "_law_depth"] (fun vs H Q E => ∃ j, n = j + 1 ∧ spLblk K ns j vs H Q E)) :
    Kn P w K mg base (7 + 3 * n) "_law_statement" ["_law_state", "_law_script", "_law_world", "_law_depth"] (spLst K ns n) := by
  refine (show Kn P w K mg base ((6 + 3 * n) + 1) "_law_statement" ["_law_state", "_law_script", "_law_world", "_law_depth"] (spLst K ns n) from ?_).mono (by omega)
  refine D.ok sc_law_statement (fun vs H Q E h => ?_) (fun f cdv A outer s H vs Q E hr h => ?_)
  · obtain ⟨st, sc, wd, nm, pc, xs, ps, rfl, _⟩ := h
    rfl
  obtain ⟨st, sc, wd, nm, pc, xs, ps, rfl, G, W, q⟩ := h
  refine ⟨_, (pss_cons (ps_asg (pv 2) (pg_tup rfl (pgs_cons (pg_name (i := 6) sc_law_statement.nd rfl (by first | exact Or.inl rfl | exact Or.inr rfl)) (pgs_cons (pg_name (i := 7) sc_law_statement.nd rfl (by first | exact Or.inl rfl | exact Or.inr rfl)) pgs_nil))))
    (pss_cons (ps_set (i := 4) sc_law_statement.nd rfl (by first | exact Or.inl rfl | exact Or.inr rfl) (pe_kn G_law_next hr (pa_cons (pv 0) (pa_cons (pv 1) (pa_cons pe_int pa_nil))) (by omega)))
    (pss_cons (ps_if (PW.pt (pw_and (pt_cmpR op_lt (pv 4) pe_int (nomark _)) (pw_and1 (pt_cmpR op_gt (pv 3) pe_int (nomark _))))) (pss_cons (ps_set (i := 8) sc_law_statement.nd rfl (by first | exact Or.inl rfl | exact Or.inr rfl) (pe_kn G_law_condition hr (pa_cons (pv 0) (pa_cons (pv 1) (pa_cons (pv 6) pa_nil))) (by omega)))
      (pss_cons (ps_set (i := 9) sc_law_statement.nd rfl (by first | exact Or.inl rfl | exact Or.inr rfl) (pe_kn G_law_block hr (pa_cons (pv 0) (pa_cons (pv 1) (pa_cons (pv 2) (pa_cons (pe_op op_sub (pv 3) pe_int) pa_nil)))) (by omega)))
      (pss_one (ps_ret (pe_tup (pa_cons pe_str (pa_cons (pv 8) (pa_cons (pv 9) (pa_cons (pe_kn G_law_block hr (pa_cons (pv 0) (pa_cons (pv 1) (pa_cons (pv 2) (pa_cons (pe_op op_sub (pv 3) pe_int) pa_nil)))) (by omega)) pa_nil))))))))) pss_nil)
    (pss_cons (ps_if (PW.pt (pw_and (pt_cmpR op_eq (pv 4) pe_int (nomark _)) (pw_and1 (pt_cmpR op_gt (pv 3) pe_int (nomark _))))) (pss_cons (ps_set (i := 8) sc_law_statement.nd rfl (by first | exact Or.inl rfl | exact Or.inr rfl) (pe_kn G_law_condition hr (pa_cons (pv 0) (pa_cons (pv 1) (pa_cons (pv 6) pa_nil))) (by omega)))
      (pss_one (ps_ret (pe_tup (pa_cons pe_str (pa_cons (pv 8) (pa_cons (pe_kn G_law_block hr (pa_cons (pv 0) (pa_cons (pv 1) (pa_cons (pv 2) (pa_cons (pe_op op_sub (pv 3) pe_int) pa_nil)))) (by omega)) pa_nil))))))) pss_nil)
    (pss_cons (ps_if (PW.pt (pw_and (pt_cmpR op_lt (pv 4) pe_int (nomark _)) (pw_and (pt_cmpR op_gt (pv 3) pe_int (nomark _)) (pw_and1 (pt_cmpR op_gt (pe_callB call_len_seq (by rfl) T.len (by decide +kernel) (pa_cons (pv 6) pa_nil)) pe_int (nomark _)))))) (pss_one (ps_ret (pe_kn G_law_counting hr (pa_cons (pv 0) (pa_cons (pv 1) (pa_cons (pv 2) (pa_cons (pv 3) pa_nil)))) (by omega)))) pss_nil)
    (pss_cons (ps_if (pt_cmpR op_lt (pv 4) pe_int (nomark _)) (pss_cons (ps_asg (pe_ix ix_list (pv 7) (pe_kn G_law_next hr (pa_cons (pv 0) (pa_cons (pv 1) (pa_cons (pe_callB call_len_seq (by rfl) T.len (by decide +kernel) (pa_cons (pv 7) pa_nil)) pa_nil))) (by omega)) (fun _ _ => rfl)) (pg_tup rfl (pgs_cons (pg_name (i := 5) sc_law_statement.nd rfl (by first | exact Or.inl rfl | exact Or.inr rfl)) (pgs_cons (pg_name (i := 12) sc_law_statement.nd rfl (by first | exact Or.inl rfl | exact Or.inr rfl)) pgs_nil))))
      (pss_cons (ps_set (i := 10) sc_law_statement.nd rfl (by first | exact Or.inl rfl | exact Or.inr rfl) (pe_callTy call_tuple_of (by rfl) T.tuple (by decide +kernel) (pa_cons (pe_lc (own := [("_law_k", 13)]) (g := gName 13) (tt := tYes) rfl sc_law_statement.nd (pi_range1 (by rfl) T.range (pa_cons (pv 12) pa_nil)) (blkOk_by (own := [("_law_k", 13)]) (N := N_law_statement) (sc := defScope s_law_statement) (by decide +kernel)) (fun _ _ _ _ _ => (pg_name (i := 13) sc_law_statement.nd rfl (by first | exact Or.inl rfl | exact Or.inr rfl))) (fun _ _ _ _ _ => pts_nil) (fun _ _ _ _ _ => (pe_kn G_e1 hr (pa_cons (pv 0) (pa_cons (pv 1) (pa_cons (pv 6) (pa_cons pe_int pa_nil)))) (by omega)))) pa_nil)))
      (pss_cons (ps_set (i := 11) sc_law_statement.nd rfl (by first | exact Or.inl rfl | exact Or.inr rfl) pe_non)
      (pss_cons (ps_if (PW.pt (pw_and (pt_cmpR op_gt (pe_callB call_len_seq (by rfl) T.len (by decide +kernel) (pa_cons (pv 6) pa_nil)) pe_int (nomark _)) (pw_and1 (pt_cmpR op_eq (pe_kn G_law_next hr (pa_cons (pv 0) (pa_cons (pv 1) (pa_cons pe_int pa_nil))) (by omega)) pe_int (nomark _))))) (pss_one (ps_set (i := 11) sc_law_statement.nd rfl (by first | exact Or.inl rfl | exact Or.inr rfl) (pe_ix ix_list (pv 6) (pe_kn G_law_next hr (pa_cons (pv 0) (pa_cons (pv 1) (pa_cons (pe_callB call_len_seq (by rfl) T.len (by decide +kernel) (pa_cons (pv 6) pa_nil)) pa_nil))) (by omega)) (fun _ _ => rfl)))) pss_nil)
      (pss_one (ps_ret (pe_tup (pa_cons pe_str (pa_cons (pv 5) (pa_cons (pv 10) (pa_cons (pv 11) pa_nil))))))))))) pss_nil)
    (pss_cons (ps_if (pt_cmpR op_eq (pv 4) pe_int (nomark _)) (pss_one (ps_ret (pe_tup (pa_cons pe_str (pa_cons (pe_kn G_e2 hr (pa_cons (pv 0) (pa_cons (pv 1) (pa_cons (pv 6) (pa_cons pe_int pa_nil)))) (by omega)) pa_nil))))) pss_nil)
    (pss_cons (ps_if (pt_cmpR op_eq (pv 4) pe_int (nomark _)) (pss_one (ps_ret (pe_tup (pa_cons pe_str (pa_cons (pe_kn G_law_condition hr (pa_cons (pv 0) (pa_cons (pv 1) (pa_cons (pv 6) pa_nil))) (by omega)) pa_nil))))) pss_nil)
    (pss_cons (ps_if (pt_cmpR op_eq (pv 4) pe_int (nomark _)) (pss_one (ps_ret (pe_tup (pa_cons pe_str (pa_cons (pe_kn G_law_condition hr (pa_cons (pv 0) (pa_cons (pv 1) (pa_cons (pv 6) pa_nil))) (by omega)) pa_nil))))) pss_nil)
    (pss_cons (ps_if (PW.pt (pw_and (pt_cmpR op_eq (pv 4) pe_int (nomark _)) (pw_and1 (pt_cmpR op_eq (pe_kn G_law_next hr (pa_cons (pv 0) (pa_cons (pv 1) (pa_cons pe_int pa_nil))) (by omega)) pe_int (nomark _))))) (pss_one (ps_ret (pe_tup (pa_cons pe_str (pa_cons (pe_kn G_e2 hr (pa_cons (pv 0) (pa_cons (pv 1) (pa_cons (pv 6) (pa_cons pe_int pa_nil)))) (by omega)) pa_nil))))) pss_nil)
    (pss_cons (ps_if (pt_cmpR op_eq (pe_callB call_len_seq (by rfl) T.len (by decide +kernel) (pa_cons (pv 6) pa_nil)) pe_int (nomark _)) (pss_one (ps_ret (pe_tup (pa_cons pe_str (pa_cons (pe_kn G_e2 hr (pa_cons (pv 0) (pa_cons (pv 1) (pa_cons (pv 6) (pa_cons pe_int pa_nil)))) (by omega)) pa_nil))))) pss_nil)
    (pss_cons (ps_set (i := 5) sc_law_statement.nd rfl (by first | exact Or.inl rfl | exact Or.inr rfl) (pe_ix ix_list (pv 6) (pe_kn G_law_next hr (pa_cons (pv 0) (pa_cons (pv 1) (pa_cons (pe_callB call_len_seq (by rfl) T.len (by decide +kernel) (pa_cons (pv 6) pa_nil)) pa_nil))) (by omega)) (fun _ _ => rfl)))
    (pss_cons (ps_if (pt_cmpR op_eq (pv 4) pe_int (nomark _)) (pss_one (ps_ret (pe_tup (pa_cons pe_str (pa_cons (pv 5) pa_nil))))) pss_nil)
    (pss_one (ps_ret (pe_tup (pa_cons pe_str (pa_cons (pv 5) (pa_cons (pe_kn G_e2 hr (pa_cons (pv 0) (pa_cons (pv 1) (pa_cons (pv 6) (pa_cons pe_int pa_nil)))) (by omega)) pa_nil))))))))))))))))))), ?_⟩
  refine ⟨_, rfl, wd, _, rfl, W.wt, rfl, _, _, rfl, _, _, rfl, rfl, ?_⟩
  refine ⟨_, rfl, _, rfl, st, sc, _, rfl, by decide, by decide, G, fun r1 H1 k1 G1 b1 b2 => ?_⟩
  have W1 := W.keep k1
  have hxl := W.nmo.len
  have e2n : exB 2 = 211 := rfl
  have e1n : exB 1 = 91 := rfl
  -- if
  refine ⟨_, rfl, _, _, rfl, rfl, _, rfl, ?_⟩
  refine ite_join ?_ (fun _ R => ?_)
  rotate_left
  · refine ⟨_, rfl, _, _, rfl, rfl, _, rfl, ?_⟩
    refine ite2 (fun hx => ?_) (fun _ => R)
    have hx := of_decide_eq_true hx
    obtain ⟨m, rfl⟩ : ∃ m, n = m + 1 := ⟨n - 1, by omega⟩
    refine ⟨_, rfl, _, rfl, _, rfl, st, sc, nm, xs, rfl, G1, W1.nmo, fun uc ec H2 k2 G2 qc pC => ?_⟩
    have W2 := W1.keep k2
    refine ⟨_, rfl, _, rfl, _, rfl, _, rfl, _, _, rfl, rfl, m, rfl, st, sc, wd, nm, pc, xs, ps, congrArg (fun z => [V.ref st, V.ref sc, V.ref wd, z]) (sub1 m), G2, W2, fun u1 d1 H3 k3 G3 q3 w3 l3 => ?_⟩
    have W3 := W2.keep k3
    refine ⟨_, rfl, _, rfl, _, rfl, _, rfl, _, rfl, _, rfl, _, _, rfl, rfl, m, rfl, st, sc, wd, nm, pc, xs, ps, congrArg (fun z => [V.ref st, V.ref sc, V.ref wd, z]) (sub1 m), G3, W3, fun u2 d2 H4 k4 G4 q4 w4 l4 => ?_⟩
    refine ⟨small_le (by simp), fun t htn => ?_⟩
    have k5 := (Kp.refl (m := none) H4).new (o := .tup [.str "if", uc, u1, u2]) htn
    have R5 := Rp.mk htn (.cons (.str "if") (.cons (qc.mono (k3.tle.trans k4.tle)) (.cons (q3.mono k4.tle) (.cons q4 .nil))))
    rw [← encS_ite] at R5
    exact q _ _ _ ((((k1.trans k2).trans k3).trans k4).trans k5.up) (G4.keep k5) R5 (.ite w3 w4 (pC.pay (by omega) (by omega)))
  -- while
  refine ⟨_, rfl, rfl, _, rfl, ?_⟩
  refine ite_join ?_ (fun _ R => ?_)
  rotate_left
  · refine ⟨_, rfl, _, _, rfl, rfl, _, rfl, ?_⟩
    refine ite2 (fun hx => ?_) (fun _ => R)
    have hx := of_decide_eq_true hx
    obtain ⟨m, rfl⟩ : ∃ m, n = m + 1 := ⟨n - 1, by omega⟩
    refine ⟨_, rfl, _, rfl, _, rfl, st, sc, nm, xs, rfl, G1, W1.nmo, fun uc ec H2 k2 G2 qc pC => ?_⟩
    have W2 := W1.keep k2
    refine ⟨_, rfl, _, rfl, _, rfl, _, rfl, _, rfl, _, _, rfl, rfl, m, rfl, st, sc, wd, nm, pc, xs, ps, congrArg (fun z => [V.ref st, V.ref sc, V.ref wd, z]) (sub1 m), G2, W2, fun u1 d1 H3 k3 G3 q3 w3 l3 => ?_⟩
    refine ⟨small_le (by simp), fun t htn => ?_⟩
    have k5 := (Kp.refl (m := none) H3).new (o := .tup [.str "while", uc, u1]) htn
    have R5 := Rp.mk htn (.cons (.str "while") (.cons (qc.mono k3.tle) (.cons q3 .nil)))
    rw [← encS_loop] at R5
    exact q _ _ _ (((k1.trans k2).trans k3).trans k5.up) (G3.keep k5) R5 (.loop w3 (by omega) (pC.pay (by omega) (by omega)))
  -- counting
  refine ⟨_, rfl, _, _, rfl, rfl, _, rfl, ?_⟩
  refine ite_join ?_ (fun _ R => ?_)
  rotate_left
  · refine ⟨_, rfl, _, _, rfl, rfl, _, rfl, ?_⟩
    refine ite2 (fun hx => ?_) (fun _ => R)
    have hx := of_decide_eq_true hx
    obtain ⟨m, rfl⟩ : ∃ m, n = m + 1 := ⟨n - 1, by omega⟩
    refine ⟨_, rfl, _, _, rfl, .inl W1.nmo.sq, _, _, rfl, rfl, _, rfl, ?_⟩
    refine ite2 (fun hy => ?_) (fun _ => R)
    have hy := of_decide_eq_true hy
    rw [List.length_map] at hy
    exact ⟨_, rfl, _, rfl, _, rfl, _, rfl, m, rfl, st, sc, wd, nm, pc, xs, ps, rfl, G1, W1, fun e => by rw [e] at hy; simp at hy, fun u s H2 k2 G2 q2 w2 => q _ _ _ (k1.trans k2) G2 q2 w2⟩
  -- call
  refine ⟨_, rfl, _, _, rfl, rfl, _, rfl, ?_⟩
  refine ite_join ?_ (fun _ R => ?_)
  rotate_left
  · obtain ⟨pv, hps, rps⟩ := W1.pco
    have hpl := rps.len
    rw [List.length_map] at hpl
    have hp1 : 0 < ps.length := List.length_pos_iff.mpr W.p1
    have hp2 := W.p2
    refine ⟨_, rfl, _, rfl, _, rfl, _, rfl, _, _, rfl, .inl hps, st, sc, _, rfl, by omega, by omega, G1, fun r2 H2 k2 G2 c1 c2 => ?_⟩
    have W2 := W1.keep k2
    obtain ⟨y, i, hy, hat⟩ := at_any c1 c2
    obtain ⟨d, hd, rd⟩ := rps.get hy
    obtain ⟨p, hp, rfl⟩ := map_get hd
    have hpm := W.pn p (List.mem_of_getElem? hp)
    obtain ⟨b, v1, v2, rfl, hb, s1, s2⟩ := (rd.mono k2.tle).t2
    rw [s1.str_inv, s2.int_inv] at hb
    refine ⟨_, _, _, _, rfl, rfl, k2.lst hps W.pne, hat, ?_⟩
    refine ⟨b, _, rfl, hb, rfl, _, _, rfl, _, _, rfl, rfl, ?_⟩
    have lt62 : ∀ z : Int, z < 4 → z < 2 ^ 62 := fun z h => Int.lt_trans h (by decide)
    have ge62 : ∀ z : Int, 0 ≤ z → -(2 ^ 62) ≤ z := fun z h => Int.le_trans (by decide) h
    refine ⟨_, rfl, _, rfl, ge62 _ (by omega), lt62 _ (by omega), fun D hD => lc_range (fun i H' => Kp (some st) H2 H' ∧ Gn K ns st sc H' ∧ ∃ ds, Ls K H' D ds ∧ (∀ d ∈ ds, Pn 2 91 d) ∧ ds.length = i)
      ⟨(Kp.refl _).new hD, G2.keep ((Kp.refl _).new hD), [], ⟨[], upd_same, .nil⟩, by simp, rfl⟩ ?_ ?_⟩
    · rintro i H3 hi ⟨k3, G3, ds, ⟨acc, hacc, racc⟩, pds, lds⟩
      have nD := new_ne G2 hD
      have nD1 : D ≠ st := fun e => nD (by rw [e])
      refine ⟨rfl, ?_⟩
      refine ⟨_, rfl, _, rfl, _, rfl, st, sc, nm, xs, rfl, G3, W2.nmo.keep k3, fun u e H4 k4 G4 q4 p4 => ?_⟩
      have ha4 := k4.of hacc nD
      have hal := racc.len
      have kp := (k3.trans k4).put (o := .lst (acc ++ [u])) hD
      refine ⟨acc, ha4, small_lt (by omega), kp, G2.put G4 kp nD1, ds ++ [e], ⟨acc ++ [u], upd_same, ?_⟩, ?_, ?_⟩
      · exact ((racc.mono k4.tle).snoc q4).mono (TLe.put ha4)
      · intro z hz
        rcases List.mem_append.mp hz with hz | hz
        · exact pds z hz
        · rw [List.mem_singleton.mp hz]; exact p4
      · rw [List.length_append, lds]; rfl
    · rintro H3 ⟨k3, G3, ds, ⟨acc, hacc, racc⟩, pds, lds⟩
      refine ⟨D, acc, rfl, .inl ⟨.inl (.inl hacc), fun l hl => ?_⟩⟩
      have k4 := (Kp.refl (m := none) H3).new (o := .tup acc) hl
      have Rv := Rp.mk hl racc
      have G4 := G3.keep k4
      have W4 := W2.keep (k3.trans k4.up)
      have k04 := (k1.trans k2).trans (k3.trans k4.up)
      have hdl : ds.length ≤ 2 := by have := hpm.2; omega
      have pv2 : Pay (.tuple ds) := (Pn.tup (Pa.of_all pds)).pay (by omega) (by have := Nat.mul_le_mul hdl (Nat.le_refl 93); omega)
      have fin : ∀ (tg : Option Str) (tv : V) (H' : Hp), TLe (upd H3 l (.tup acc)) H' → Kp (some st) H H' → Gn K ns st sc H' → Rp K H' tv (optD tg) → (∀ x, tg = some x → x ∈ NM) → ∀ t, H' t = none →
          Q (.ref t) (upd H' t (.tup [.str "call", .str p.1, .ref l, tv])) := fun tg tv H' t1 kk GG rt hx t htn => by
        have k6 := (Kp.refl (m := none) H').new (o := .tup [.str "call", .str p.1, .ref l, tv]) htn
        exact q _ (.call p.1 ds tg) _ (kk.trans k6.up) (GG.keep k6) (by simp only [encS]; exact Rp.mk htn (.cons (.str "call") (.cons (.str _) (.cons (Rv.mono t1) (.cons rt .nil))))) (.leaf rfl (by simp only [depS]) ⟨hpm.1, pv2, hx⟩)
      refine ⟨_, rfl, _, _, rfl, .inl W4.nmo.sq, _, _, rfl, rfl, _, rfl, ?_⟩
      refine ite2 (fun hy => ?_) (fun _ => ?_)
      · have hy := of_decide_eq_true hy
        rw [List.length_map] at hy
        refine ⟨_, rfl, _, rfl, st, sc, _, rfl, by decide, by decide, G4, fun r5 H5 k5 G5 d1 d2 => ⟨rfl, _, rfl, ?_⟩⟩
        have W5 := W4.keep k5
        refine ite2 (fun _ => ?_) (fun _ => ?_)
        · refine ⟨_, rfl, _, rfl, _, rfl, _, rfl, _, _, rfl, .inl W5.nmo.sq, st, sc, _, rfl, ?_, ?_, G5, fun r6 H6 k6 G6 f1 f2 => ?_⟩
          · rw [List.length_map]; omega
          · rw [List.length_map]; omega
          rw [List.length_map] at f2
          obtain ⟨x, hx, hat6⟩ := at_str f1 f2
          have W6 := W5.keep k6
          refine ⟨_, _, _, _, rfl, rfl, W6.nmo.sq, hat6, ?_⟩
          refine ⟨_, rfl, _, rfl, _, rfl, small_le (by simp), fun t htn => fin (some x) _ _ (k5.tle.trans k6.tle) ((k04.trans k5).trans k6) G6 (.str x) (fun z e => by cases e; exact W.nmo.mem x hx) t htn⟩
        · exact ⟨_, rfl, _, rfl, _, rfl, small_le (by simp), fun t htn => fin none _ _ k5.tle (k04.trans k5) G5 .non (fun z e => by cases e) t htn⟩
      · exact ⟨_, rfl, _, rfl, _, rfl, small_le (by simp), fun t htn => fin none _ _ (TLe.refl _) k04 G4 .non (fun z e => by cases e) t htn⟩
  -- tell
  refine ⟨_, rfl, rfl, _, rfl, ?_⟩
  refine ite_join ?_ (fun _ R => ?_)
  rotate_left
  · refine ⟨_, rfl, _, rfl, _, rfl, st, sc, nm, xs, rfl, G1, W1.nmo, fun uc ec H2 k2 G2 qc pC => ?_⟩
    refine ⟨small_le (by simp), fun t htn => ?_⟩
    have k5 := (Kp.refl (m := none) H2).new (o := .tup [.str "tell", uc]) htn
    exact q _ (.tell ec) _ ((k1.trans k2).trans k5.up) (G2.keep k5) (by simp only [encS]; exact Rp.mk htn (.cons (.str "tell") (.cons qc .nil))) (.leaf rfl (by simp only [depS]) (pC.pay (by omega) (by omega)))
  -- check
  refine ⟨_, rfl, rfl, _, rfl, ?_⟩
  refine ite_join ?_ (fun _ R => ?_)
  rotate_left
  · refine ⟨_, rfl, _, rfl, _, rfl, st, sc, nm, xs, rfl, G1, W1.nmo, fun uc ec H2 k2 G2 qc pC => ?_⟩
    refine ⟨small_le (by simp), fun t htn => ?_⟩
    have k5 := (Kp.refl (m := none) H2).new (o := .tup [.str "check", uc]) htn
    exact q _ (.check ec) _ ((k1.trans k2).trans k5.up) (G2.keep k5) (by simp only [encS]; exact Rp.mk htn (.cons (.str "check") (.cons qc .nil))) (.leaf rfl (by simp only [depS]) (pC.pay (by omega) (by omega)))
  -- need
  refine ⟨_, rfl, rfl, _, rfl, ?_⟩
  refine ite_join ?_ (fun _ R => ?_)
  rotate_left
  · refine ⟨_, rfl, _, rfl, _, rfl, st, sc, nm, xs, rfl, G1, W1.nmo, fun uc ec H2 k2 G2 qc pC => ?_⟩
    refine ⟨small_le (by simp), fun t htn => ?_⟩
    have k5 := (Kp.refl (m := none) H2).new (o := .tup [.str "need", uc]) htn
    exact q _ (.need ec) _ ((k1.trans k2).trans k5.up) (G2.keep k5) (by simp only [encS]; exact Rp.mk htn (.cons (.str "need") (.cons qc .nil))) (.leaf rfl (by simp only [depS]) (pC.pay (by omega) (by omega)))
  -- return
  refine ⟨_, rfl, rfl, _, rfl, ?_⟩
  refine ite2 (fun _ => ?_) (fun _ => ?_)
  refine ⟨_, rfl, _, rfl, st, sc, _, rfl, by decide, by decide, G1, fun r2 H2 k2 G2 c1 c2 => ⟨rfl, _, rfl, ?_⟩⟩
  refine ite2 (fun _ => ?_) (fun _ => ?_)
  · refine ⟨_, rfl, _, rfl, _, rfl, st, sc, nm, xs, rfl, G2, W1.nmo.keep k2, fun uc ec H3 k3 G3 qc pC => ?_⟩
    refine ⟨small_le (by simp), fun t htn => ?_⟩
    have k5 := (Kp.refl (m := none) H3).new (o := .tup [.str "return", uc]) htn
    exact q _ (.ret ec) _ (((k1.trans k2).trans k3).trans k5.up) (G3.keep k5) (by simp only [encS]; exact Rp.mk htn (.cons (.str "return") (.cons qc .nil))) (.leaf rfl (by simp only [depS]) (pC.pay (by omega) (by omega)))
  rotate_left
  have k2 : Kp (some st) H1 H1 := Kp.refl _
  have G2 := G1
  all_goals
    have W2 := W1.keep k2
    refine ⟨_, rfl, _, _, rfl, .inl W2.nmo.sq, rfl, _, rfl, ?_⟩
    refine ite2 (fun _ => ?_) (fun h0 => ?_)
    · refine ⟨_, rfl, _, rfl, _, rfl, st, sc, nm, xs, rfl, G2, W2.nmo, fun uc ec H3 k3 G3 qc pC => ?_⟩
      refine ⟨small_le (by simp), fun t htn => ?_⟩
      have k5 := (Kp.refl (m := none) H3).new (o := .tup [.str "tell", uc]) htn
      exact q _ (.tell ec) _ (((k1.trans k2).trans k3).trans k5.up) (G3.keep k5) (by simp only [encS]; exact Rp.mk htn (.cons (.str "tell") (.cons qc .nil))) (.leaf rfl (by simp only [depS]) (pC.pay (by omega) (by omega)))
    · have h1 : 0 < xs.length := by
        refine Nat.pos_of_ne_zero fun e => h0 (decide_eq_true ?_)
        rw [List.length_map, e]
        rfl
      refine ⟨_, rfl, _, rfl, _, rfl, _, rfl, _, _, rfl, .inl W2.nmo.sq, st, sc, _, rfl, ?_, ?_, G2, fun r5 H5 k5 G5 d1 d2 => ?_⟩
      · rw [List.length_map]; omega
      · rw [List.length_map]; omega
      rw [List.length_map] at d2
      obtain ⟨x, hx, hat⟩ := at_str d1 d2
      have W5 := W2.keep k5
      have hxm := W.nmo.mem x hx
      refine ⟨_, _, _, _, rfl, rfl, W5.nmo.sq, hat, ?_⟩
      refine ⟨_, rfl, rfl, _, rfl, ?_⟩
      refine ite2 (fun _ => ?_) (fun _ => ?_)
      · refine ⟨_, rfl, small_le (by simp), fun t htn => ?_⟩
        have k6 := (Kp.refl (m := none) H5).new (o := .tup [.str "ask", .str x]) htn
        exact q _ (.ask x) _ (((k1.trans k2).trans k5).trans k6.up) (G5.keep k6) (by simp only [encS]; exact Rp.mk htn (.cons (.str "ask") (.cons (.str x) .nil))) (.leaf rfl (by simp only [depS]) hxm)
      · refine ⟨_, rfl, _, rfl, _, rfl, _, rfl, st, sc, nm, xs, rfl, G5, W5.nmo, fun uc ec H3 k3 G3 qc pC => ?_⟩
        refine ⟨small_le (by simp), fun t htn => ?_⟩
        have k6 := (Kp.refl (m := none) H3).new (o := .tup [.str "set", .str x, uc]) htn
        exact q _ (.set x ec) _ ((((k1.trans k2).trans k5).trans k3).trans k6.up) (G3.keep k6) (by simp only [encS]; exact Rp.mk htn (.cons (.str "set") (.cons (.str x) (.cons qc .nil)))) (.leaf rfl (by simp only [depS]) ⟨hxm, pC.pay (by omega) (by omega)⟩)
end
end Cl

/-! Carryclaim, the law's own defs: blocks by depth, _law_procedure. -/
namespace Cl
open PySem PySem.Spec PyProof.Rows L2
section
variable {P : Program} {w : World} {K : PySem.W.Frag} {mg : Str → Option Value} {base : Heap} {ns : List Int}
theorem Df.vac {x : Str} {st : Stmt} {ps : List Str} {k : Nat} {sp : Sp} (D : Df K mg x st ps) (h : ∀ vs H Q E, sp vs H Q E → False) : Kn P w K mg base k x ps sp := by
  obtain ⟨f, fd, F, b, m⟩ := D
  exact ⟨f, fd, ⟨fun vs H Q E q => (h _ _ _ _ q).elim, fun A outer s H args us vs Q E _ _ _ _ q => (h _ _ _ _ q).elim⟩, b, m, F.kp⟩
/-- what the generator's lower part keeps -/
theorem ok_blks (T : Bl mg) (Dn : Df K mg "_law_next" s_law_next ["_law_state", "_law_script", "_law_many"]) (Du : Df K mg "_law_number" s_law_number ["_law_state", "_law_script"])
    (De : Df K mg "_law_expression" s_law_expression ["_law_state", "_law_script", "_law_names", "_law_depth"]) (Dm : Df K mg "_law_comparison" s_law_comparison ["_law_state", "_law_script", "_law_names"])
    (Dc : Df K mg "_law_condition" s_law_condition ["_law_state", "_law_script", "_law_names"]) (Dk : Df K mg "_law_counting" s_law_counting ["_law_state", "_law_script", "_law_world", "_law_depth"])
    (Ds : Df K mg "_law_statement" s_law_statement ["_law_state", "_law_script", "_law_world", "_law_depth"]) (Db : Df K mg "_law_block" s_law_block ["_law_state", "_law_script", "_law_world", "_law_depth"]) :
    ∀ n, Kn P w K mg base (8 + 3 * n) "_law_block" ["_law_state", "_law_script", "_law_world", "_law_depth"] (spLblk K ns n) := by
  have Gn := ok_law_next (P := P) (w := w) (base := base) (ns := ns) T Dn
  have Gu := ok_law_number Du Gn
  have Ge := ok_lexp T De Gn Gu
  have Gc := ok_law_condition Dc Gn (ok_law_comparison Dm Gn (Ge 1))
  intro n
  induction n with
  | zero => exact ok_law_block (n := 0) T Db Gn (ok_law_statement (n := 0) T Ds Gn (Ge 1) (Ge 2) Gc (Dk.vac fun vs H Q E h => by obtain ⟨j, hj, _⟩ := h; omega) (Db.vac fun vs H Q E h => by obtain ⟨j, hj, _⟩ := h; omega))
  | succ n ih =>
    refine ok_law_block (n := n + 1) T Db Gn (ok_law_statement (n := n + 1) T Ds Gn (Ge 1) (Ge 2) Gc (((ok_law_counting T Dk Gn ih).mono (by omega)).imp fun vs H Q E h => ?_) ((ih.mono (by omega)).imp fun vs H Q E h => ?_))
    · obtain ⟨j, hj, h⟩ := h
      obtain rfl : n = j := by omega
      exact h
    · obtain ⟨j, hj, h⟩ := h
      obtain rfl : n = j := by omega
      exact h
end
theorem WB.of_all {n : Nat} : ∀ {b : List Stm}, (∀ s ∈ b, WS n s) → WB n (b.length * cS n) b
  | [], _ => WB.nil
  | s :: b, h => by
    have t := WB.of_all (b := b) fun z hz => h z (List.mem_cons_of_mem _ hz)
    have c := (WB.one (h s List.mem_cons_self)).app t
    refine c.mono (Nat.le_refl _) ?_
    rw [List.length_cons, Nat.add_mul]
    omega
def OWN : List Str := ["x", "y", "n1"]
theorem OWN_NM : ∀ x ∈ OWN, x ∈ NM := by decide +kernel
theorem own_cut {r : Int} (h0 : 0 ≤ r) (h : r < 4) : cutV (OWN.map V.str) none (some r) = (OWN.take r.toNat).map V.str := by
  rcases (show r = 0 ∨ r = 1 ∨ r = 2 ∨ r = 3 by omega) with rfl | rfl | rfl | rfl <;> rfl
/-- the list of procedures that a program's generator hands on -/
structure Pc (K : PySem.W.Frag) (st pc : Addr) (ps : List (Str × Nat)) (H : Hp) : Prop where
  pco : ∃ vs, SqL K H pc vs ∧ RpA K H vs (ps.map fun p => .tuple [.str p.1, .int ((p.2 : Nat) : Int)])
  pne : some pc ≠ some st
  pn : ∀ p ∈ ps, p.1 ∈ PN ∧ p.2 ≤ 2
  p1 : ps ≠ []
  p2 : ps.length ≤ 10
theorem Pc.keep {K : PySem.W.Frag} {st pc : Addr} {ps : List (Str × Nat)} {H H' : Hp} (h : Pc K st pc ps H) (k : Kp (some st) H H') : Pc K st pc ps H' := by
  obtain ⟨vs, h1, h2⟩ := h.pco
  exact ⟨⟨vs, k.lst h1 h.pne, h2.mono k.tle⟩, h.pne, h.pn, h.p1, h.p2⟩
def spLproc (K : PySem.W.Frag) (ns : List Int) : Sp := fun vs H Q _ => ∃ (st sc sh pc : Addr) (rv : V) (gl pp : List Str) (nm : Str) (ps : List (Str × Nat)), vs = [.ref st, .ref sc, .ref sh, rv, .ref pc] ∧ Gn K ns st sc H ∧ H sh = some (.lst (gl.map V.str)) ∧ some sh ≠ some st ∧
  (∀ x ∈ gl, x ∈ NM) ∧ gl.length ≤ 5 ∧ Rp K H rv (.tuple [.str nm, .tuple (pp.map .str)]) ∧ (∀ x ∈ pp, x ∈ NM) ∧ pp.length ≤ 3 ∧ Pc K st pc ps H ∧
  ∀ u b H', Kp (some st) H H' → Gn K ns st sc H' → Rp K H' u (encPr ⟨nm, pp, b⟩) → WB 3 900 b → Q u H'
section
variable {P : Program} {w : World} {K : PySem.W.Frag} {mg : Str → Option Value} {base : Heap} {ns : List Int}
abbrev s_law_procedure : Stmt := top 42
abbrev N_law_procedure : List Str := ["_law_state", "_law_script", "_law_shared", "_law_row", "_law_procedures", "_law_own", "_law_world", "_law_first", "_law_last", "_law_name", "_law_block_here", "_law_made"]
theorem sc_law_procedure : FnScope N_law_procedure ["_law_state", "_law_script", "_law_shared", "_law_row", "_law_procedures"] (defScope s_law_procedure) := ⟨rfl, rfl, rfl, by decide +kernel, rfl, by decide +kernel, by decide +kernel⟩
theorem ok_law_procedure (T : Bl mg) (D : Df K mg "_law_procedure" s_law_procedure ["_law_state", "_law_script", "_law_shared", "_law_row", "_law_procedures"]) (G_law_next : Anext P w K mg base ns)
    (G_law_number : Kn P w K mg base 2 "_law_number" ["_law_state", "_law_script"] (spLnum K ns))
    (G_b2 : Kn P w K mg base 14 "_law_block" ["_law_state", "_law_script", "_law_world", "_law_depth"] (spLblk K ns 2)) (G_b1 : Kn P w K mg base 11 "_law_block" ["_law_state", "_law_script", "_law_world", "_law_depth"] (spLblk K ns 1)) :
    Kn P w K mg base 15 "_law_procedure" ["_law_state", "_law_script", "_law_shared", "_law_row", "_law_procedures"] (spLproc K ns) := by
  refine D.ok sc_law_procedure (fun vs H Q E h => ?_) (fun f cdv A outer s H vs Q E hr h => ?_)
  · obtain ⟨st, sc, sh, pc, rv, gl, pp, nm, ps, rfl, _⟩ := h
    rfl
  obtain ⟨st, sc, sh, pc, rv, gl, pp, nm, ps, rfl, G, hsh, nsh, hgl, lgl, rr, hpp, lpp, PC, q⟩ := h
  refine ⟨_, (pss_cons (ps_set (i := 5) sc_law_procedure.nd rfl (by first | exact Or.inl rfl | exact Or.inr rfl) (pe_slice sl_list (pe_lst (pa_cons pe_str (pa_cons pe_str (pa_cons pe_str pa_nil)))) po_none (po_some (pe_kn G_law_next hr (pa_cons (pv 0) (pa_cons (pv 1) (pa_cons pe_int pa_nil)))))))
    (pss_cons (ps_set (i := 6) sc_law_procedure.nd rfl (by first | exact Or.inl rfl | exact Or.inr rfl) (pe_tup (pa_cons (pe_op op_cat (pe_op op_cat (pe_callTy call_list_of (by rfl) T.list (by decide +kernel) (pa_cons (pv 2) pa_nil)) (pe_callTy call_list_of (by rfl) T.list (by decide +kernel) (pa_cons (pe_ix ix_tup (pv 3) pe_int (fun _ _ => rfl)) pa_nil))) (pv 5)) (pa_cons (pv 4) pa_nil))))
    (pss_cons (ps_set (i := 7) sc_law_procedure.nd rfl (by first | exact Or.inl rfl | exact Or.inr rfl) (pe_lst pa_nil))
    (pss_cons (ps_set (i := 8) sc_law_procedure.nd rfl (by first | exact Or.inl rfl | exact Or.inr rfl) (pe_lst pa_nil))
    (pss_cons (ps_for PassesOwn.never rfl (pi_list (pv 5)) (pg_name (i := 9) sc_law_procedure.nd rfl (by first | exact Or.inl rfl | exact Or.inr rfl)) (pss_cons (ps_set (i := 11) sc_law_procedure.nd rfl (by first | exact Or.inl rfl | exact Or.inr rfl) (pe_tup (pa_cons pe_str (pa_cons (pv 9) (pa_cons (pe_tup (pa_cons pe_str (pa_cons (pe_kn G_law_number hr (pa_cons (pv 0) (pa_cons (pv 1) pa_nil))) pa_nil))) pa_nil)))))
      (pss_cons (ps_if (pt_cmpR op_eq (pe_kn G_law_next hr (pa_cons (pv 0) (pa_cons (pv 1) (pa_cons pe_int pa_nil)))) pe_int (nomark _)) (pss_one (ps_set (i := 11) sc_law_procedure.nd rfl (by first | exact Or.inl rfl | exact Or.inr rfl) (pe_tup (pa_cons pe_str (pa_cons (pv 9) pa_nil))))) pss_nil)
      (pss_one (ps_if (pt_cmpR op_gt (pe_kn G_law_next hr (pa_cons (pv 0) (pa_cons (pv 1) (pa_cons pe_int pa_nil)))) pe_int (nomark _)) (pss_one (ps_expr (pe_bm PySem.F.plainAttrs_list PySem.F.slot_list_append PySem.F.type_list_append mt_append (pv 7) (pa_cons (pv 11) pa_nil)))) (pss_one (ps_expr (pe_bm PySem.F.plainAttrs_list PySem.F.slot_list_append PySem.F.type_list_append mt_append (pv 8) (pa_cons (pv 11) pa_nil)))))))))
    (pss_cons (ps_set (i := 10) sc_law_procedure.nd rfl (by first | exact Or.inl rfl | exact Or.inr rfl) (pe_kn G_b2 hr (pa_cons (pv 0) (pa_cons (pv 1) (pa_cons (pv 6) (pa_cons pe_int pa_nil))))))
    (pss_cons (ps_if (pt_cmpR op_eq (pe_ix ix_tup (pv 3) pe_int (fun _ _ => rfl)) pe_str (nomark _)) (pss_one (ps_set (i := 10) sc_law_procedure.nd rfl (by first | exact Or.inl rfl | exact Or.inr rfl) (pe_op op_catA (pe_op op_catA (pv 10) (pe_kn G_b2 hr (pa_cons (pv 0) (pa_cons (pv 1) (pa_cons (pv 6) (pa_cons pe_int pa_nil)))))) (pe_kn G_b1 hr (pa_cons (pv 0) (pa_cons (pv 1) (pa_cons (pv 6) (pa_cons pe_int pa_nil)))))))) pss_nil)
    (pss_one (ps_ret (pe_tup (pa_cons (pe_ix ix_tup (pv 3) pe_int (fun _ _ => rfl)) (pa_cons (pe_ix ix_tup (pv 3) pe_int (fun _ _ => rfl)) (pa_cons (pe_op op_catA (pe_op op_catA (pe_callTy call_tuple_of (by rfl) T.tuple (by decide +kernel) (pa_cons (pv 7) pa_nil)) (pv 10)) (pe_callTy call_tuple_of (by rfl) T.tuple (by decide +kernel) (pa_cons (pv 8) pa_nil))) pa_nil))))))))))))), ?_⟩
  obtain ⟨ra, rv1, rv2, rfl, hra, q1, q2⟩ := rr.t2
  rw [q1.str_inv] at hra
  obtain ⟨pa, ws2, rfl, hpa, rp⟩ := q2.tup_inv
  rw [rp.strs_eq] at hpa
  refine ⟨small_le (by simp), fun l hl => ?_⟩
  have k1 : Kp none H (upd H l (.lst (OWN.map V.str))) := (Kp.refl _).new hl
  refine ⟨_, rfl, _, rfl, st, sc, _, rfl, by decide, by decide, G.keep k1, fun r2 H2 k2 G2 b1 b2 => ?_⟩
  have hl2 : H2 l = some (.lst (OWN.map V.str)) := k2.of upd_same (new_ne G hl)
  refine ⟨r2, rfl, l, _, rfl, .inl (.inl hl2), fun o ho => ?_⟩
  rw [own_cut b1 b2]
  have k02 := k1.up.trans k2
  have hsh2 := k02.of hsh nsh
  have k3 : Kp none H2 (upd H2 o (.lst ((OWN.take r2.toNat).map V.str))) := (Kp.refl _).new ho
  refine ⟨_, rfl, _, _, rfl, .inl (.inl (.inl (k3.of hsh2))), fun l1 h1 => ?_⟩
  have k4 := k3.new (o := .lst (gl.map V.str)) h1
  refine ⟨_, rfl, _, _, _, _, rfl, rfl, (k02.tle.trans k4.tle).seqT hra, rfl, _, _, rfl, .inr ((k02.tle.trans k4.tle).seqT hpa), fun l2 h2 => ?_⟩
  have k5 := k4.new (o := .lst (pp.map V.str)) h2
  have hl1 := ((Kp.refl (m := none) _).new (o := .lst (pp.map V.str)) h2).of (show (upd (upd H2 o (.lst ((OWN.take r2.toNat).map V.str))) l1 (.lst (gl.map V.str))) l1 = _ from upd_same)
  refine ⟨l1, l2, _, _, rfl, rfl, hl1, upd_same, small_le (by simp only [List.length_map]; omega), fun l3 h3 => ?_⟩
  have k6 := k5.new (o := .lst (gl.map V.str ++ pp.map V.str)) h3
  have ko : Kp none (upd H2 o (.lst ((OWN.take r2.toNat).map V.str))) _ := (((Kp.refl (m := none) _).new (o := .lst (gl.map V.str)) h1).new (o := .lst (pp.map V.str)) h2).new (o := .lst (gl.map V.str ++ pp.map V.str)) h3
  have ho6 := ko.of (show (upd H2 o (.lst ((OWN.take r2.toNat).map V.str))) o = _ from upd_same)
  have own3 : (OWN.take r2.toNat).length ≤ 3 := by
    have := List.length_take_le r2.toNat OWN
    have e : OWN.length = 3 := rfl
    rw [List.length_take]; omega
  refine ⟨_, rfl, l3, o, _, _, rfl, rfl, upd_same, ho6, small_le (by simp only [List.length_append, List.length_map]; omega), fun l4 h4 => ?_⟩
  have k7 := k6.new (o := .lst (gl.map V.str ++ pp.map V.str ++ (OWN.take r2.toNat).map V.str)) h4
  have ko7 := ko.new (o := .lst (gl.map V.str ++ pp.map V.str ++ (OWN.take r2.toNat).map V.str)) h4
  refine ⟨_, rfl, small_le (by simp), fun wd hwd => ?_⟩
  have k8 := k7.new (o := .tup [.ref l4, .ref pc]) hwd
  have ko8 := ko7.new (o := .tup [.ref l4, .ref pc]) hwd
  have kw : Kp (some st) H _ := k02.trans k8.up
  have Gw := G2.keep k8
  have how := ko8.of (show (upd H2 o (.lst ((OWN.take r2.toNat).map V.str))) o = _ from upd_same)
  have hl4 := ((Kp.refl (m := none) _).new (o := .tup [.ref l4, .ref pc]) hwd).of upd_same
  have nl4 : some l4 ≠ some st := new_ne (G2.keep k6) h4
  have nso : some o ≠ some st := new_ne G2 ho
  have eN : gl.map V.str ++ pp.map V.str ++ (OWN.take r2.toNat).map V.str = (gl ++ pp ++ OWN.take r2.toNat).map V.str := by simp
  have Ww : Wd K st wd l4 pc (gl ++ pp ++ OWN.take r2.toNat) ps (upd (upd (upd (upd (upd (upd H2 o (.lst ((OWN.take r2.toNat).map V.str))) l1 (.lst (gl.map V.str))) l2 (.lst (pp.map V.str))) l3 (.lst (gl.map V.str ++ pp.map V.str))) l4 (.lst (gl.map V.str ++ pp.map V.str ++ (OWN.take r2.toNat).map V.str))) wd (.tup [.ref l4, .ref pc])) := by
    refine ⟨.inl (.inl upd_same), ⟨.inl (.inl (by rw [← eN]; exact hl4)), nl4, fun x hx => ?_, by simp only [List.length_append]; omega⟩, (PC.keep kw).pco, PC.pne, PC.pn, PC.p1, PC.p2⟩
    rcases List.mem_append.mp hx with hx | hx
    · rcases List.mem_append.mp hx with hx | hx
      · exact hgl x hx
      · exact hpp x hx
    · exact OWN_NM x (List.mem_of_mem_take hx)
  clear hl4 h4 h3 h2 h1 k4 k5 k6 k7 ko ko7 ko8 k8 k3 ho6 hl1 hwd
  generalize upd (upd (upd (upd (upd (upd H2 o (.lst ((OWN.take r2.toNat).map V.str))) l1 (.lst (gl.map V.str))) l2 (.lst (pp.map V.str))) l3 (.lst (gl.map V.str ++ pp.map V.str))) l4 (.lst (gl.map V.str ++ pp.map V.str ++ (OWN.take r2.toNat).map V.str))) wd (.tup [.ref l4, .ref pc]) = Hw at kw Gw how Ww ⊢
  generalize OWN.take r2.toNat = own at how Ww own3 ⊢
  have sq3 : ∀ H', Kp (some st) H H' → SqT K H' ra [.str nm, .ref pa] := fun H' k => k.tle.seqT hra
  refine ⟨Nat.zero_le _, fun f1 hf1 => ?_⟩
  have kf1 : Kp none Hw (upd Hw f1 (.lst [])) := (Kp.refl _).new hf1
  refine ⟨Nat.zero_le _, fun f2 hf2 => ?_⟩
  have kf2 := kf1.new (o := .lst []) hf2
  have n12 : f1 ≠ f2 := fun e => by rw [← e, upd_same] at hf2; cases hf2
  have hf2' : Hw f2 = none := kf1.dom _ hf2
  have nf1 := new_ne Gw hf1
  have nf2 := new_ne Gw hf2'
  have nf1' : f1 ≠ st := fun e => nf1 (by rw [e])
  have nf2' : f2 ≠ st := fun e => nf2 (by rw [e])
  have i1 : (upd (upd Hw f1 (.lst [])) f2 (.lst [])) f1 = some (.lst []) := ((Kp.refl (m := none) _).new (o := .lst []) hf2).of (show (upd Hw f1 (.lst [])) f1 = _ from upd_same)
  have i2 : (upd (upd Hw f1 (.lst [])) f2 (.lst [])) f2 = some (.lst []) := upd_same
  have io := kf2.of how
  have Gi := Gw.keep kf2
  clear hf2
  generalize upd (upd Hw f1 (.lst [])) f2 (.lst []) = Hi at kf2 i1 i2 io Gi ⊢
  refine ⟨_, rfl, o, rfl, ⟨_, .inl (.inl io)⟩, for_dl PyData.str own (RpA.strs own) (fun l σ' H' => (∃ y z, σ' = [some (.ref st), some (.ref sc), some (.ref sh), some (.ref ra), some (.ref pc), some (.ref o), some (.ref wd), some (.ref f1), some (.ref f2), y, none, z]) ∧
      Kp (some st) Hw H' ∧ TLe Hi H' ∧ Gn K ns st sc H' ∧ ∃ b1 b2 : List Stm, Ls K H' f1 (b1.map encS) ∧ Ls K H' f2 (b2.map encS) ∧ b1.length ≤ l.length ∧ b2.length ≤ l.length ∧ ∀ s ∈ b1 ++ b2, WS 0 s)
    ⟨⟨_, _, rfl⟩, kf2.up, TLe.refl _, Gi, [], [], ⟨[], i1, .nil⟩, ⟨[], i2, .nil⟩, Nat.zero_le _, Nat.zero_le _, by simp⟩ (fun l' σ' H' z => ⟨z.2.2.1, .inl (.inl (z.2.1.of how nso))⟩) ?_ ?_⟩
  · rintro pre x post y σ' H' el ry ⟨⟨z1, z2, rfl⟩, k9, t9, G9, b1, b2, ⟨vs1, hv1, rv1⟩, ⟨vs2, hv2, rv2⟩, lb1, lb2, wsA⟩
    rw [ry.str_inv]
    have hxm : x ∈ NM := (Ww.nmo.mem x (List.mem_append_right _ (by rw [el]; simp)))
    have lpre : pre.length < own.length := by rw [el]; simp
    have lv1 := rv1.len
    have lv2 := rv2.len
    rw [List.length_map] at lv1 lv2
    refine ⟨_, rfl, _, rfl, _, rfl, st, sc, rfl, G9, fun r5 H5 k5 G5 b5 => ⟨small_le (by simp), fun t1 h1 => ⟨small_le (by simp), fun t2 h2 => ?_⟩⟩⟩
    have R1 : Rp K (upd H5 t1 (.tup [.str "number", .int r5])) (.ref t1) (.tuple [.str "number", .int r5]) := Rp.mk h1 (.cons (.str _) (.cons (.int _) .nil))
    have K2 := ((Kp.refl (m := none) H5).new (o := .tup [.str "number", .int r5]) h1).new (o := .tup [.str "set", .str x, .ref t1]) h2
    have R2 := Rp.mk h2 (.cons (.str "set") (.cons (.str x) (.cons R1 .nil)))
    have p2 : Pay (.tuple [.str "number", .int r5]) := (Pn.tup (n := 0) (.cons (tag_p (by simp [tags])) (.cons (.int b5) .nil))).pay (by omega) (by omega)
    have es : encS (Stm.set x (.tuple [.str "number", .int r5])) = .tuple [.str "set", .str x, .tuple [.str "number", .int r5]] := by simp only [encS]
    rw [← es] at R2
    refine ⟨_, rfl, _, rfl, st, sc, _, rfl, by decide, by decide, G5.keep K2, fun r6 H6 k6 G6 c1 c2 => ⟨rfl, _, rfl, ?_⟩⟩
    have kk := (k5.trans K2.up).trans k6
    refine ite2 (fun _ => ?_) (fun _ => ?_)
    refine ⟨_, rfl, small_le (by simp), fun t3 h3 => ?_⟩
    have K3 := (Kp.refl (m := none) H6).new (o := .tup [.str "ask", .str x]) h3
    have R3 := Rp.mk (K := K) h3 (.cons (.str "ask") (.cons (.str x) .nil))
    have ea : encS (Stm.ask x) = .tuple [.str "ask", .str x] := by simp only [encS]
    rw [← ea] at R3
    have GM := G6.keep K3
    have kM := kk.trans K3.up
    have hM : ∃ zs, Rp K (upd H6 t3 (.tup [.str "ask", .str x])) (.ref t3) (encS zs) ∧ WS 0 zs := ⟨_, R3, .leaf rfl (by simp only [depS]) hxm⟩
    rotate_left
    have GM := G6
    have kM := kk
    have hM : ∃ zs, Rp K H6 (.ref t2) (encS zs) ∧ WS 0 zs := ⟨_, R2.mono k6.tle, .leaf rfl (by simp only [depS]) ⟨hxm, p2⟩⟩
    all_goals
      obtain ⟨zs, RM, wM⟩ := hM
      refine ⟨_, rfl, _, rfl, st, sc, _, rfl, by decide, by decide, GM, fun r7 H7 k7 G7 d1 d2 => ⟨_, _, rfl, rfl, _, rfl, ?_⟩⟩
      have kE := kM.trans k7
      have R7 := RM.mono k7.tle
      refine ite2 (fun _ => ?_) (fun _ => ?_)
      · have hf := kE.of hv1 nf1
        refine ⟨_, rfl, .inl ⟨rfl, _, .inl (.inl hf)⟩, _, rfl, f1, vs1, _, rfl, rfl, hf, small_lt (by omega), ?_⟩
        have kp := fun v : V => (k9.trans kE).put (o := .lst (vs1 ++ [v])) hf1
        refine ⟨⟨_, _, rfl⟩, kp _, (t9.trans kE.tle).trans (TLe.put hf), Gw.put G7 (kp _) nf1', b1 ++ [zs], b2, ⟨_, upd_same, ?_⟩, ⟨vs2, ?_, (rv2.mono kE.tle).mono (TLe.put hf)⟩, ?_, ?_, ?_⟩
        · rw [List.map_append]
          exact ((rv1.mono kE.tle).snoc R7).mono (TLe.put hf)
        · rw [upd_ne n12.symm]
          exact kE.of hv2 nf2
        · simp only [List.length_append, List.length_cons, List.length_nil]; omega
        · simp only [List.length_append, List.length_cons, List.length_nil]; omega
        · intro s hs
          simp only [List.mem_append, List.mem_cons, List.not_mem_nil, or_false] at hs
          rcases hs with (hs | hs) | hs
          · exact wsA s (List.mem_append_left _ hs)
          · rw [hs]; exact wM
          · exact wsA s (List.mem_append_right _ hs)
      · have hf := kE.of hv2 nf2
        refine ⟨_, rfl, .inl ⟨rfl, _, .inl (.inl hf)⟩, _, rfl, f2, vs2, _, rfl, rfl, hf, small_lt (by omega), ?_⟩
        have kp := fun v : V => (k9.trans kE).put (o := .lst (vs2 ++ [v])) hf2'
        refine ⟨⟨_, _, rfl⟩, kp _, (t9.trans kE.tle).trans (TLe.put hf), Gw.put G7 (kp _) nf2', b1, b2 ++ [zs], ⟨vs1, ?_, (rv1.mono kE.tle).mono (TLe.put hf)⟩, ⟨_, upd_same, ?_⟩, ?_, ?_, ?_⟩
        · rw [upd_ne n12]
          exact kE.of hv1 nf1
        · rw [List.map_append]
          exact ((rv2.mono kE.tle).snoc R7).mono (TLe.put hf)
        · simp only [List.length_append, List.length_cons, List.length_nil]; omega
        · simp only [List.length_append, List.length_cons, List.length_nil]; omega
        · intro s hs
          simp only [List.mem_append, List.mem_cons, List.not_mem_nil, or_false] at hs
          rcases hs with hs | hs | hs
          · exact wsA s (List.mem_append_left _ hs)
          · exact wsA s (List.mem_append_right _ hs)
          · rw [hs]; exact wM
  · rintro σ' H' ⟨⟨z1, z2, rfl⟩, k9, t9, G9, b1, b2, ⟨vs1, hv1, rv1⟩, ⟨vs2, hv2, rv2⟩, lb1, lb2, wsA⟩
    have W9 := Ww.keep k9
    refine ⟨_, rfl, _, rfl, _, rfl, st, sc, wd, l4, pc, _, ps, rfl, G9, W9, fun ub b H8 k8 G8 qb wb lb => ?_⟩
    have W8 := W9.keep k8
    have k98 := k9.trans k8
    refine ⟨_, rfl, _, _, _, _, rfl, rfl, sq3 _ (kw.trans k98), rfl, rfl, _, rfl, ?_⟩
    refine ite2 (fun _ => ?_) (fun _ => ?_)
    refine ⟨_, rfl, _, rfl, _, rfl, _, rfl, st, sc, wd, l4, pc, _, ps, rfl, G8, W8, fun u5 c5 H5 k5 G5 q5 w5 l5 => ?_⟩
    refine cat_ok (qb.mono k5.tle) q5 (by simp only [List.length_map]; omega) fun u6 H6 k6 r6 => ?_
    rw [← List.map_append] at r6
    refine ⟨_, rfl, _, rfl, _, rfl, st, sc, wd, l4, pc, _, ps, rfl, G5.keep k6, W8.keep (k5.trans k6.up), fun u7 c7 H7 k7 G7 q7 w7 l7 => ?_⟩
    refine cat_ok (r6.mono k7.tle) q7 (by simp only [List.length_map, List.length_append]; omega) fun u8 HF kz rF => ?_
    rw [← List.map_append] at rF
    have kL : Kp (some st) H' HF := (((k8.trans k5).trans k6.up).trans k7).trans kz.up
    have GF : Gn K ns st sc HF := G7.keep kz
    have hF : ∃ bF, Rp K HF u8 (encB bF) ∧ WB 2 279 bF ∧ bF.length ≤ 9 := ⟨_, rF, ((wb.app w5).app (w7.mono (by omega) (Nat.le_refl _))).mono (by omega) (by decide), by simp only [List.length_append]; omega⟩
    rotate_left
    have kL := k8
    have GF := G8
    have hF : ∃ bF, Rp K H8 ub (encB bF) ∧ WB 2 279 bF ∧ bF.length ≤ 9 := ⟨_, qb, wb.mono (by omega) (by decide), by omega⟩
    all_goals
      obtain ⟨bF, rF, wF, lF⟩ := hF
      have kH := kw.trans (k9.trans kL)
      have h1F := kL.of hv1 nf1
      have h2F := kL.of hv2 nf2
      have lv1 := rv1.len
      have lv2 := rv2.len
      rw [List.length_map] at lv1 lv2
      refine ⟨_, rfl, _, _, _, _, rfl, rfl, sq3 _ kH, rfl, _, rfl, _, _, _, _, rfl, rfl, sq3 _ kH, rfl, _, rfl, f1, vs1, rfl, .inl ⟨.inl (.inl h1F), fun a1 ha1 => ?_⟩⟩
      have K1 := (Kp.refl (m := none) _).new (o := .tup vs1) ha1
      refine ⟨_, rfl, cat_ok (Rp.mk ha1 (rv1.mono kL.tle)) (rF.mono K1.tle) (by simp only [List.length_map]; omega) fun u9 H9 k10 r9 => ?_⟩
      rw [← List.map_append] at r9
      have h2G := k10.of (K1.of h2F)
      refine ⟨_, rfl, f2, vs2, rfl, .inl ⟨.inl (.inl h2G), fun a2 ha2 => ?_⟩⟩
      have K2 := (Kp.refl (m := none) _).new (o := .tup vs2) ha2
      refine cat_ok (r9.mono K2.tle) (Rp.mk ha2 (rv2.mono (kL.tle.trans (K1.trans k10).tle))) (by simp only [List.length_map, List.length_append]; omega) fun u10 H10 k11 r10 => ?_
      rw [← List.map_append] at r10
      refine ⟨small_le (by simp), fun tt htt => ?_⟩
      have K3 := ((K1.trans k10).trans K2).trans k11
      have K4 := K3.new (o := .tup [.str nm, .ref pa, u10]) htt
      have RR := Rp.mk htt (.cons (.str nm) (.cons (q2.mono (kH.tle.trans K3.tle)) (.cons r10 .nil)))
      refine q _ _ _ (kH.trans K4.up) (GF.keep K4) RR ?_
      have w1 := WB.of_all (n := 0) (b := b1) fun s hs => wsA s (List.mem_append_left _ hs)
      have w2 := WB.of_all (n := 0) (b := b2) fun s hs => wsA s (List.mem_append_right _ hs)
      have e0 : cS 0 = 1 := rfl
      rw [e0] at w1 w2
      exact (((w1.mono (by omega) (Nat.le_refl _)).app wF).app (w2.mono (by omega) (Nat.le_refl _))).mono (by omega) (by omega)
end
end Cl

/-! Carryclaim, the law's own defs: _law_program. -/
namespace Cl
open PySem PySem.Spec PyProof.Rows L2
def rLenQ (K : PySem.W.Frag) : List V → Hp → VK → Prop := fun xs H Q => ∃ p ys, xs = [.ref p] ∧ (SqL K H p ys ∨ SqT K H p ys) ∧ Q (.int ys.length) H
theorem cut_take (xs : List V) {r : Int} (h0 : 0 ≤ r) : cutV xs none (some r) = xs.take r.toNat := by
  obtain ⟨k, rfl⟩ : ∃ k : Nat, r = (k : Int) := ⟨r.toNat, by omega⟩
  unfold cutV
  rw [HT.sIx_none, HT.sIx_nat, List.drop_zero, Nat.sub_zero, Int.toNat_natCast]
  by_cases h : k ≤ xs.length
  · rw [Nat.min_eq_left h]
  · rw [Nat.min_eq_right (by omega), List.take_of_length_le (Nat.le_refl _), List.take_of_length_le (by omega)]
theorem cut_drop (xs : List V) {r : Int} (h0 : 0 ≤ r) : cutV xs (some r) none = xs.drop r.toNat := by
  obtain ⟨k, rfl⟩ : ∃ k : Nat, r = (k : Int) := ⟨r.toNat, by omega⟩
  unfold cutV
  rw [HT.sIx_none, HT.sIx_nat, Int.toNat_natCast]
  by_cases h : k ≤ xs.length
  · rw [Nat.min_eq_left h, List.take_of_length_le (by rw [List.length_drop]; omega)]
  · rw [Nat.min_eq_right (by omega), Nat.sub_self, List.take_zero, List.drop_eq_nil_of_le (by omega)]
abbrev Rw0 := Str × List Str
def encRw (x : Rw0) : PyData := .tuple [.str x.1, .tuple (x.2.map .str)]
def ROWS : List Rw0 := [("step", ["a"]), ("twice", ["a", "b"]), ("walk", [])]
def mainR : Rw0 := ("main", [])
def RWf (n p : Nat) : List Rw0 := (ROWS.take n).take p ++ [mainR] ++ (ROWS.take n).drop p
def notMain (x : Rw0) : Bool := !decide (x.1 = ("main" : Str))
def ORf (n p : Nat) : List Rw0 := mainR :: (RWf n p).filter notMain
def SH1 : List Str := ["g", "h", "total"]
def SH2 : List Str := ["result", "g", "b2"]
def rowsOk (n p : Nat) : Bool := decide (((ORf n p).map (·.1)).Nodup) && (RWf n p).all (fun x => decide (x ∈ ORf n p)) && (ORf n p).all (fun x => decide (x.1 ∈ PN) && x.2.all (fun y => decide (y ∈ NM) && !decide (y ∈ SH1 ++ SH2)) && decide x.2.Nodup && decide (x.2.length ≤ 2)) &&
  decide (((RWf n p).map (·.1)).Nodup) && decide (mainR ∈ RWf n p) && decide ((RWf n p).length ≤ 4) && decide ((ORf n p).length ≤ 5)
theorem rows_ok : ∀ n, n < 4 → ∀ p, p < 4 → rowsOk n p = true := by decide +kernel
structure RowsOk (n p : Nat) : Prop where
  ond : ((ORf n p).map (·.1)).Nodup
  sub : ∀ x ∈ RWf n p, x ∈ ORf n p
  pn : ∀ x ∈ ORf n p, x.1 ∈ PN
  nm : ∀ x ∈ ORf n p, ∀ y ∈ x.2, y ∈ NM ∧ y ∉ SH1 ++ SH2
  pnd : ∀ x ∈ ORf n p, x.2.Nodup
  pl : ∀ x ∈ ORf n p, x.2.length ≤ 2
  rnd : ((RWf n p).map (·.1)).Nodup
  main : mainR ∈ RWf n p
  len : (RWf n p).length ≤ 4
  olen : (ORf n p).length ≤ 5
theorem rowsOk_of {n p : Nat} (hn : n < 4) (hp : p < 4) : RowsOk n p := by
  have h := rows_ok n hn p hp
  unfold rowsOk at h
  simp only [Bool.and_eq_true, decide_eq_true_eq, List.all_eq_true, Bool.not_eq_true', decide_eq_false_iff_not] at h
  obtain ⟨⟨⟨⟨⟨⟨h1, h2⟩, h3⟩, h4⟩, h5⟩, h6⟩, h7⟩ := h
  exact ⟨h1, h2, fun x hx => (h3 x hx).1.1.1, fun x hx y hy => (h3 x hx).1.1.2 y hy, fun x hx => (h3 x hx).1.2, fun x hx => (h3 x hx).2, h4, h5, h6, h7⟩
theorem SH_ok : ∀ n : Nat, n < 4 → (∀ x ∈ SH1.take n, x ∈ NM) ∧ (SH1.take n).Nodup ∧ (∀ x ∈ SH2.take n, x ∈ NM) ∧ (SH2.take n).Nodup := by decide +kernel
def spLprog (K : PySem.W.Frag) (ns : List Int) : Sp := fun vs H Q _ => ∃ (st sc : Addr), vs = [.ref st, .ref sc] ∧ Gn K ns st sc H ∧ ∀ u g H', Kp (some st) H H' → Gn K ns st sc H' → Rp K H' u (encPg g) → WfPg g → Q u H'
section
variable {P : Program} {w : World} {K : PySem.W.Frag} {mg : Str → Option Value} {base : Heap} {ns : List Int}
abbrev s_law_program : Stmt := top 43
abbrev N_law_program : List Str := ["_law_state", "_law_script", "_law_shared", "_law_rows_here", "_law_place_here", "_law_procedures", "_law_found", "_law_row"]
theorem sc_law_program : FnScope N_law_program ["_law_state", "_law_script"] (defScope s_law_program) := ⟨rfl, rfl, rfl, by decide +kernel, rfl, by decide +kernel, by decide +kernel⟩
theorem ok_law_program (T : Bl mg) (D : Df K mg "_law_program" s_law_program ["_law_state", "_law_script"]) (G_law_next : Anext P w K mg base ns)
    (G_law_procedure : Kn P w K mg base 15 "_law_procedure" ["_law_state", "_law_script", "_law_shared", "_law_row", "_law_procedures"] (spLproc K ns)) : Kn P w K mg base 16 "_law_program" ["_law_state", "_law_script"] (spLprog K ns) := by
  refine D.ok sc_law_program (fun vs H Q E h => ?_) (fun f cdv A outer s H vs Q E hr h => ?_)
  · obtain ⟨st, sc, rfl, _⟩ := h
    rfl
  obtain ⟨st, sc, rfl, G, q⟩ := h
  have hu : (A.deeper (envOfC "_law_program" (defScope s_law_program) s.heap.objs.size f cdv)).units + 1 < cLine := by have := hr.units; omega
  refine ⟨_, (pss_cons (ps_set (i := 2) sc_law_program.nd rfl (by first | exact Or.inl rfl | exact Or.inr rfl) (pe_slice sl_list (pe_ix ix_list (pe_lst (pa_cons (pe_lst (pa_cons pe_str (pa_cons pe_str (pa_cons pe_str pa_nil)))) (pa_cons (pe_lst (pa_cons pe_str (pa_cons pe_str (pa_cons pe_str pa_nil)))) pa_nil))) (pe_op op_fdivW (pe_kn G_law_next hr (pa_cons (pv 0) (pa_cons (pv 1) (pa_cons pe_int pa_nil)))) pe_int) (fun _ _ => rfl)) po_none (po_some (pe_kn G_law_next hr (pa_cons (pv 0) (pa_cons (pv 1) (pa_cons pe_int pa_nil)))))))
    (pss_cons (ps_set (i := 3) sc_law_program.nd rfl (by first | exact Or.inl rfl | exact Or.inr rfl) (pe_slice sl_list (pe_lst (pa_cons (pe_tup (pa_cons pe_str (pa_cons (pe_tup (pa_cons pe_str pa_nil)) pa_nil))) (pa_cons (pe_tup (pa_cons pe_str (pa_cons (pe_tup (pa_cons pe_str (pa_cons pe_str pa_nil))) pa_nil))) (pa_cons (pe_tup (pa_cons pe_str (pa_cons (pe_tup pa_nil) pa_nil))) pa_nil)))) po_none (po_some (pe_kn G_law_next hr (pa_cons (pv 0) (pa_cons (pv 1) (pa_cons pe_int pa_nil)))))))
    (pss_cons (ps_set (i := 4) sc_law_program.nd rfl (by first | exact Or.inl rfl | exact Or.inr rfl) (pe_kn G_law_next hr (pa_cons (pv 0) (pa_cons (pv 1) (pa_cons (pe_op op_add (pe_callB call_len_seq (by rfl) T.len (by decide +kernel) (pa_cons (pv 3) pa_nil)) pe_int) pa_nil)))))
    (pss_cons (ps_set (i := 3) sc_law_program.nd rfl (by first | exact Or.inl rfl | exact Or.inr rfl) (pe_op op_cat (pe_op op_cat (pe_slice sl_list (pv 3) po_none (po_some (pv 4))) (pe_lst (pa_cons (pe_tup (pa_cons pe_str (pa_cons (pe_tup pa_nil) pa_nil))) pa_nil))) (pe_slice sl_list (pv 3) (po_some (pv 4)) po_none)))
    (pss_cons (ps_setLc (i := 5) (own := [("_law_row", 7)]) (g := gName 7) (tt := tYes) rfl sc_law_program.nd rfl rfl (sw_true rfl rfl rfl (by decide +kernel)) (pi_list (pv 3)) (blkOk_by (own := [("_law_row", 7)]) (N := N_law_program) (sc := defScope s_law_program) (by decide +kernel)) (fun _ _ _ _ _ => (pg_name (i := 7) sc_law_program.nd rfl (by first | exact Or.inl rfl | exact Or.inr rfl))) (fun _ _ _ _ _ => pts_nil) (fun _ _ _ _ _ => (pe_tup (pa_cons (pe_ix (r := rIxT K) ix_tup (pv 7) pe_int (fun _ _ => rfl)) (pa_cons (pe_callB (r := rLenQ K) call_len_seq (by rfl) T.len (by decide +kernel) (pa_cons (pe_ix (r := rIxT K) ix_tup (pv 7) pe_int (fun _ _ => rfl)) pa_nil)) pa_nil)))))
    (pss_cons (ps_asg pe_int (pg_sub (pv 0) pe_int set_list))
    (pss_cons (ps_set (i := 6) sc_law_program.nd rfl (by first | exact Or.inl rfl | exact Or.inr rfl) pe_dnewK)
    (pss_cons (ps_for PassesOwn.never rfl (pi_list (pe_op op_cat (pe_lst (pa_cons (pe_tup (pa_cons pe_str (pa_cons (pe_tup pa_nil) pa_nil))) pa_nil)) (pe_lc (own := [("_law_row", 7)]) (g := gName 7) rfl sc_law_program.nd (pi_list (pv 3)) (blkOk_by (own := [("_law_row", 7)]) (N := N_law_program) (sc := defScope s_law_program) (by decide +kernel)) (fun _ _ _ _ _ => (pg_name (i := 7) sc_law_program.nd rfl (by first | exact Or.inl rfl | exact Or.inr rfl))) (fun _ _ _ _ _ => pts_one (pt_cmpR op_ne (pe_ix (r := rIxT K) ix_tup (pv 7) pe_int (fun _ _ => rfl)) pe_str (nomark _))) (fun _ _ _ _ _ => (pv 7))))) (pg_name (i := 7) sc_law_program.nd rfl (by first | exact Or.inl rfl | exact Or.inr rfl)) (pss_one (ps_dput hu (pv 6) (pe_ix ix_tup (pv 7) pe_int (fun _ _ => rfl)) (pe_kn G_law_procedure hr (pa_cons (pv 0) (pa_cons (pv 1) (pa_cons (pv 2) (pa_cons (pv 7) (pa_cons (pv 5) pa_nil)))))) rfl)))
    (pss_one (ps_ret (pe_tup (pa_cons (pe_callTy call_tuple_of (by rfl) T.tuple (by decide +kernel) (pa_cons (pv 2) pa_nil)) (pa_cons (pe_callTy call_tuple_of (by rfl) T.tuple (by decide +kernel) (pa_cons (pe_lc (own := [("_law_row", 7)]) (g := gName 7) (tt := tYes) rfl sc_law_program.nd (pi_list (pv 3)) (blkOk_by (own := [("_law_row", 7)]) (N := N_law_program) (sc := defScope s_law_program) (by decide +kernel)) (fun _ _ _ _ _ => (pg_name (i := 7) sc_law_program.nd rfl (by first | exact Or.inl rfl | exact Or.inr rfl))) (fun _ _ _ _ _ => pts_nil) (fun _ _ _ _ _ => (pe_dget hu (pv 6) (pe_ix (r := rIxT K) ix_tup (pv 7) pe_int (fun _ _ => rfl)) (fun _ _ => rfl)))) pa_nil)) pa_nil))))))))))))), ?_⟩
  -- the shared names
  refine ⟨small_le (by simp), fun la hla => ⟨small_le (by simp), fun lb hlb => ⟨small_le (by simp), fun l0 hl0 => ?_⟩⟩⟩
  have ka := (Kp.refl (m := none) H).new (o := .lst (SH1.map V.str)) hla
  have kb := ka.new (o := .lst (SH2.map V.str)) hlb
  have k0 := kb.new (o := .lst [.ref la, .ref lb]) hl0
  have ha0 := ((Kp.refl (m := none) _).new (o := .lst (SH2.map V.str)) hlb).trans ((Kp.refl (m := none) _).new (o := .lst [.ref la, .ref lb]) hl0) |>.of (show (upd H la (.lst (SH1.map V.str))) la = _ from upd_same)
  have hb0 := ((Kp.refl (m := none) _).new (o := .lst [.ref la, .ref lb]) hl0).of (show (upd (upd H la (.lst (SH1.map V.str))) lb (.lst (SH2.map V.str))) lb = _ from upd_same)
  refine ⟨_, rfl, _, rfl, st, sc, _, rfl, by decide, by decide, G.keep k0, fun r1 H1 k1 G1 a1 a2 => ?_⟩
  have hl01 := k1.of (show (upd (upd (upd H la (.lst (SH1.map V.str))) lb (.lst (SH2.map V.str))) l0 (.lst [.ref la, .ref lb])) l0 = _ from upd_same) (new_ne (G.keep kb) hl0)
  have hS : ∃ lx S, atI [V.ref la, .ref lb] (r1 / 3) = some (.ref lx) ∧ H1 lx = some (.lst (S.map V.str)) ∧ some lx ≠ some st ∧ (S = SH1 ∨ S = SH2) := by
    by_cases h3 : r1 = 3
    · refine ⟨lb, SH2, by rw [h3]; rfl, k1.of hb0 (new_ne (G.keep ka) hlb), new_ne (G.keep ka) hlb, .inr rfl⟩
    · refine ⟨la, SH1, by rw [show r1 / 3 = 0 by omega]; rfl, k1.of ha0 (new_ne G hla), new_ne G hla, .inl rfl⟩
  obtain ⟨lx, S, hat, hlx, nlx, hS⟩ := hS
  refine ⟨_, _, rfl, rfl, ⟨by decide, by decide⟩, _, _, _, _, rfl, rfl, .inl (.inl hl01), hat, ?_⟩
  refine ⟨_, rfl, _, rfl, st, sc, _, rfl, by decide, by decide, G1, fun r2 H2 k2 G2 b1 b2 => ?_⟩
  refine ⟨r2, rfl, lx, _, rfl, .inl (.inl (k2.of hlx nlx)), fun sh hsh => ?_⟩
  rw [cut_take _ b1, ← List.map_take]
  have glok : (∀ x ∈ S.take r2.toNat, x ∈ NM) ∧ (S.take r2.toNat).Nodup ∧ (∀ x ∈ S.take r2.toNat, x ∈ SH1 ++ SH2) ∧ (S.take r2.toNat).length ≤ 3 := by
    obtain ⟨o1, o2, o3, o4⟩ := SH_ok r2.toNat (by omega)
    rcases hS with e | e
    · subst e
      exact ⟨o1, o2, fun x hx => List.mem_append_left _ (List.mem_of_mem_take hx), by rw [List.length_take]; exact Nat.min_le_right _ _⟩
    · subst e
      exact ⟨o3, o4, fun x hx => List.mem_append_right _ (List.mem_of_mem_take hx), by rw [List.length_take]; exact Nat.min_le_right _ _⟩
  have k3 := (Kp.refl (m := none) H2).new (o := .lst ((S.take r2.toNat).map V.str)) hsh
  have nsh := new_ne G2 hsh
  have kA := (k0.up.trans k1).trans (k2.trans k3.up)
  have GA := G2.keep k3
  have hshA : (upd H2 sh (.lst ((S.take r2.toNat).map V.str))) sh = _ := upd_same
  generalize S.take r2.toNat = gl at glok k3 kA GA hshA ⊢
  generalize upd H2 sh (.lst (gl.map V.str)) = HA at k3 kA GA hshA ⊢
  -- the rows
  refine ⟨small_le (by simp), fun t1 e1 => ⟨small_le (by simp), fun t2 e2 => ⟨small_le (by simp), fun t3 e3 => ⟨small_le (by simp), fun t4 e4 => ⟨small_le (by simp), fun t5 e5 => ⟨small_le (by simp), fun t6 e6 => ⟨small_le (by simp), fun l1 e7 => ?_⟩⟩⟩⟩⟩⟩⟩
  have R2 : Rp K _ (.ref t2) (encRw ("step", ["a"])) := Rp.mk e2 (.cons (.str "step") (.cons (Rp.mk e1 (.cons (.str "a") .nil)) .nil))
  have R4 : Rp K _ (.ref t4) (encRw ("twice", ["a", "b"])) := Rp.mk e4 (.cons (.str "twice") (.cons (Rp.mk e3 (.cons (.str "a") (.cons (.str "b") .nil))) .nil))
  have R6 : Rp K _ (.ref t6) (encRw ("walk", [])) := Rp.mk e6 (.cons (.str "walk") (.cons (Rp.mk e5 .nil) .nil))
  have RA1 := RpA.cons (R2.mono (((((TLe.new e3).trans (TLe.new e4)).trans (TLe.new e5)).trans (TLe.new e6)).trans (TLe.new (o := .lst [.ref t2, .ref t4, .ref t6]) e7)))
    (.cons (R4.mono (((TLe.new e5).trans (TLe.new e6)).trans (TLe.new (o := .lst [.ref t2, .ref t4, .ref t6]) e7))) (.cons (R6.mono (TLe.new (o := .lst [.ref t2, .ref t4, .ref t6]) e7)) .nil))
  have RA : RpA K _ [.ref t2, .ref t4, .ref t6] (ROWS.map encRw) := RA1
  have k6 := ((((((Kp.refl (m := none) HA).new (o := .tup [.str "a"]) e1).new (o := .tup [.str "step", .ref t1]) e2).new (o := .tup [.str "a", .str "b"]) e3).new (o := .tup [.str "twice", .ref t3]) e4).new (o := .tup []) e5).new (o := .tup [.str "walk", .ref t5]) e6
  have k7 := k6.new (o := .lst [.ref t2, .ref t4, .ref t6]) e7
  have nl1 := new_ne (GA.keep k6) e7
  have GB := GA.keep k7
  refine ⟨_, rfl, _, rfl, st, sc, _, rfl, by decide, by decide, GB, fun r3 H3 k8 G3 c1 c2 => ?_⟩
  have hl1' := k8.of (show (upd _ l1 (.lst [.ref t2, .ref t4, .ref t6])) l1 = _ from upd_same) nl1
  have RA3 := RA.mono k8.tle
  have kB := kA.trans (k7.up.trans k8)
  have hshB := (k7.up.trans k8).of hshA nsh
  refine ⟨r3, rfl, l1, _, rfl, .inl (.inl hl1'), fun l2 f2 => ?_⟩
  rw [cut_take _ c1]
  generalize [V.ref t2, V.ref t4, V.ref t6] = vR at RA3 hl1' ⊢
  have RT := RA3.take r3.toNat
  rw [← List.map_take] at RT
  have lT := RT.len
  rw [List.length_map] at lT
  have lR : (ROWS.take r3.toNat).length ≤ 3 := by rw [List.length_take]; exact Nat.min_le_right _ _
  generalize hvT : vR.take r3.toNat = vT at RT lT ⊢
  have k9 := (Kp.refl (m := none) H3).new (o := .lst vT) f2
  have n2 := new_ne G3 f2
  refine ⟨_, rfl, _, rfl, _, rfl, _, _, rfl, .inl (.inl (.inl upd_same)), _, _, rfl, rfl, st, sc, _, rfl, by omega, by omega, G3.keep k9, fun r4 H4 k10 G4 d1 d2 => ?_⟩
  have h24 := k10.of (show (upd H3 l2 (.lst vT)) l2 = _ from upd_same) n2
  have RT4 := RT.mono (k9.tle.trans k10.tle)
  have kC := kB.trans (k9.up.trans k10)
  have hshC := (k9.up.trans k10).of hshB nsh
  have hn4 : r3.toNat < 4 := by omega
  have hp4 : r4.toNat < 4 := by omega
  have ok := rowsOk_of hn4 hp4
  refine ⟨_, rfl, _, rfl, r4, rfl, l2, _, rfl, .inl (.inl h24), fun l3 g3 => ⟨small_le (by simp), fun t7 g4 => ⟨small_le (by simp), fun t8 g5 => ⟨small_le (by simp), fun l4 g6 => ?_⟩⟩⟩⟩
  rw [cut_take _ d1] at *
  have q3 := (Kp.refl (m := none) H4).new (o := .lst (vT.take r4.toNat)) g3
  have q4 := q3.new (o := .tup []) g4
  have q5 := q4.new (o := .tup [.str "main", .ref t7]) g5
  have q6 := q5.new (o := .lst [.ref t8]) g6
  have R8 : Rp K _ (.ref t8) (encRw mainR) := Rp.mk g5 (.cons (.str "main") (.cons (Rp.mk g4 .nil) .nil))
  have h3 := (((Kp.refl (m := none) _).new (o := .tup []) g4).new (o := .tup [.str "main", .ref t7]) g5).new (o := .lst [.ref t8]) g6 |>.of (show (upd H4 l3 (.lst (vT.take r4.toNat))) l3 = _ from upd_same)
  have lt1 : (vT.take r4.toNat).length ≤ 3 := by rw [List.length_take]; omega
  refine ⟨l3, l4, _, _, rfl, rfl, h3, upd_same, small_le (by simp only [List.length_cons, List.length_nil]; omega), fun l5 g7 => ?_⟩
  have q7 := q6.new (o := .lst (vT.take r4.toNat ++ [.ref t8])) g7
  refine ⟨_, rfl, _, rfl, r4, rfl, l2, _, rfl, .inl (.inl (q7.of h24)), fun l6 g8 => ?_⟩
  rw [cut_drop _ d1]
  have q8 := q7.new (o := .lst (vT.drop r4.toNat)) g8
  have h5 := ((Kp.refl (m := none) _).new (o := .lst (vT.drop r4.toNat)) g8).of (show (upd _ l5 (.lst (vT.take r4.toNat ++ [.ref t8]))) l5 = _ from upd_same)
  refine ⟨l5, l6, _, _, rfl, rfl, h5, upd_same, small_le (by simp only [List.length_append, List.length_cons, List.length_nil, List.length_drop]; omega), fun l7 g9 => ?_⟩
  have q9 := q8.new (o := .lst (vT.take r4.toNat ++ [.ref t8] ++ vT.drop r4.toNat)) g9
  have R8' := R8.mono (((TLe.new (o := .lst [.ref t8]) g6).trans (TLe.new (o := .lst (vT.take r4.toNat ++ [.ref t8])) g7)).trans ((TLe.new (o := .lst (vT.drop r4.toNat)) g8).trans (TLe.new (o := .lst (vT.take r4.toNat ++ [.ref t8] ++ vT.drop r4.toNat)) g9)))
  have RT9 := RT4.mono q9.tle
  have RW0 := ((RT9.take r4.toNat).app (.one R8')).app (RT9.drop r4.toNat)
  have eRW : ((ROWS.take r3.toNat).map encRw).take r4.toNat ++ [encRw mainR] ++ ((ROWS.take r3.toNat).map encRw).drop r4.toNat = (RWf r3.toNat r4.toNat).map encRw := by
    unfold RWf
    simp only [List.map_append, List.map_take, List.map_drop, List.map_cons, List.map_nil]
  rw [eRW] at RW0
  have nR := new_ne (G4.keep q8) g9
  have GD := G4.keep q9
  have kD := kC.trans q9.up
  have hshD := q9.of hshC
  have hR : (upd (upd (upd (upd (upd (upd (upd H4 l3 (.lst (vT.take r4.toNat))) t7 (.tup [])) t8 (.tup [.str "main", .ref t7])) l4 (.lst [.ref t8])) l5 (.lst (vT.take r4.toNat ++ [.ref t8]))) l6 (.lst (vT.drop r4.toNat))) l7 (.lst (vT.take r4.toNat ++ [.ref t8] ++ vT.drop r4.toNat))) l7 = some (.lst (vT.take r4.toNat ++ [.ref t8] ++ vT.drop r4.toNat)) := upd_same
  generalize upd (upd (upd (upd (upd (upd (upd H4 l3 (.lst (vT.take r4.toNat))) t7 (.tup [])) t8 (.tup [.str "main", .ref t7])) l4 (.lst [.ref t8])) l5 (.lst (vT.take r4.toNat ++ [.ref t8]))) l6 (.lst (vT.drop r4.toNat))) l7 (.lst (vT.take r4.toNat ++ [.ref t8] ++ vT.drop r4.toNat)) = HD at GD kD hshD RW0 hR ⊢
  generalize vT.take r4.toNat ++ [V.ref t8] ++ vT.drop r4.toNat = vW at RW0 hR ⊢
  clear q3 q4 q5 q6 q7 q8 q9 R8 R8' h3 h5 RT9
  have okl := ok.len
  have okol := ok.olen
  generalize hRW : RWf r3.toNat r4.toNat = RW at RW0 ok okl ⊢
  -- the procedures
  refine ⟨_, rfl, l7, rfl, ⟨_, .inl (.inl hR)⟩, fun pcl hpc => lc_dl (m := none) encRw (fun x => .tuple [.str x.1, .int ((x.2.length : Nat) : Int)]) RW (.inl (.inl hR)) (by simp) RW0 hpc (.inr rfl) (small_lt (by omega)) ?_ ?_⟩
  · intro x y H' hx k ry R hR2
    obtain ⟨a, v1, v2, rfl, ha, s1, s2⟩ := ry.t2
    rw [s1.str_inv] at ha
    obtain ⟨b, ws, rfl, hb, rb⟩ := s2.tup_inv
    have e : ws.length = x.2.length := by have := rb.len; rwa [List.length_map] at this
    refine ⟨rfl, _, rfl, _, _, _, _, rfl, rfl, ha, rfl, _, rfl, _, _, _, _, rfl, rfl, ha, rfl, b, ws, rfl, .inr hb, small_le (by simp), fun t ht => ?_⟩
    rw [e]
    exact hR2 _ _ ((Kp.refl _).new ht) (Rp.mk ht (.cons (.str _) (.cons (.int _) .nil)))
  intro HE kE lsE
  have GE := GD.keep kE
  have npc := new_ne GD hpc
  obtain ⟨a, b, c, d0, hst, ha⟩ := GE.s4
  obtain ⟨GF, kF⟩ := GE.upd (a := a) (b := b) (c := c) (d := 20) ha
  refine ⟨_, rfl, _, _, _, 3, rfl, rfl, hst, rfl, ?_⟩
  have kHF := kD.trans (kE.up.trans kF)
  have hshF := kF.of (kE.of hshD) nsh
  have hRF := kF.of (kE.of hR) nR
  have RWF := RW0.mono (kE.tle.trans kF.tle)
  have PCF : Pc K st pcl (RW.map fun x => (x.1, x.2.length)) (upd HE st (.lst [.int a, .int b, .int c, .int 20])) := by
    obtain ⟨vs, hv, rv⟩ := lsE
    refine ⟨⟨vs, .inl (.inl (kF.of hv npc)), ?_⟩, npc, fun p hp => ?_, fun e => ?_, by rw [List.length_map]; omega⟩
    · have := rv.mono kF.tle
      rw [List.map_map]
      exact this
    · obtain ⟨x, hx, rfl⟩ := List.mem_map.mp hp
      have hxo := ok.sub x (by rw [hRW]; exact hx)
      exact ⟨ok.pn x hxo, ok.pl x hxo⟩
    · have := ok.main
      rw [hRW] at this
      rw [List.map_eq_nil_iff] at e
      rw [e] at this
      cases this
  rw [show ([V.int a, V.int b, V.int c, V.int d0].set 3 (V.int 20)) = [V.int a, V.int b, V.int c, V.int 20] from rfl]
  generalize upd HE st (.lst [.int a, .int b, .int c, .int 20]) = HF at GF kF kHF hshF hRF RWF PCF ⊢
  have okS : ∀ x ∈ RW, x ∈ ORf r3.toNat r4.toNat := fun x hx => ok.sub x (by rw [hRW]; exact hx)
  have hOR : ORf r3.toNat r4.toNat = mainR :: RW.filter notMain := by unfold ORf; rw [hRW]
  -- found
  intro d hd
  have dF : HF d = none := hd
  have j0 := (Kp.refl (m := none) HF).new (o := .dK []) hd
  have nd := new_ne GF dF
  have nd' : d ≠ st := fun e => nd (by rw [e])
  refine ⟨small_le (by simp), fun t9 i1 => ⟨small_le (by simp), fun t10 i2 => ⟨small_le (by simp), fun m1 i3 => ?_⟩⟩⟩
  have j1 := ((((Kp.refl (m := none) (upd HF d (.dK []))).new (o := .tup []) i1).new (o := .tup [.str "main", .ref t9]) i2).new (o := .lst [.ref t10]) i3)
  have R10 : Rp K _ (.ref t10) (encRw mainR) := Rp.mk i2 (.cons (.str "main") (.cons (Rp.mk i1 .nil) .nil))
  have R10' := R10.mono (TLe.new (o := .lst [.ref t10]) i3)
  have hd1 := j1.of (show (upd HF d (.dK [])) d = _ from upd_same)
  have j01 := j0.trans j1
  have RW1 := RWF.mono j01.tle
  have hR1 := j01.of hRF
  have hm1 : (upd (upd (upd (upd HF d (.dK [])) t9 (.tup [])) t10 (.tup [.str "main", .ref t9])) m1 (.lst [.ref t10])) m1 = some (.lst [.ref t10]) := upd_same
  generalize upd (upd (upd (upd HF d (.dK [])) t9 (.tup [])) t10 (.tup [.str "main", .ref t9])) m1 (.lst [.ref t10]) = H1' at R10' hd1 j01 RW1 hR1 hm1 j1 ⊢
  refine ⟨_, rfl, l7, rfl, ⟨_, .inl (.inl hR1)⟩, fun D2 hD2 => lc_dlf (m := none) encRw encRw notMain RW (.inl (.inl hR1)) (by simp) RW1 hD2 (.inr rfl) (small_lt (by omega)) ?_ ?_⟩
  · intro x y H' hx k ry R N hR2 hN
    obtain ⟨a, v1, v2, rfl, ha, s1, s2⟩ := ry.t2
    rw [s1.str_inv] at ha
    refine ⟨rfl, _, rfl, _, _, _, _, rfl, rfl, ha, rfl, rfl, _, rfl, ?_⟩
    have e : (!decide (V.str x.1 = V.str "main")) = notMain x := by
      unfold notMain
      congr 1
      rw [decide_eq_decide]
      exact ⟨fun h => V.str.inj h, fun h => congrArg V.str h⟩
    refine ite2 (fun hx => ?_) (fun hx => ?_)
    · refine ⟨_, rfl, hR2 _ _ (by rw [← e]; exact hx) (Kp.refl _) ry⟩
    · exact hN _ (by rw [← e]; simpa using hx) (Kp.refl _)
  intro HG kG lsG
  obtain ⟨vf, hvf, rvf⟩ := lsG
  have lvf := rvf.len
  have lflt : (RW.filter notMain).length ≤ 4 := Nat.le_trans (List.length_filter_le _ _) okl
  rw [List.length_map] at lvf
  refine ⟨m1, D2, _, _, rfl, rfl, kG.of hm1, hvf, small_le (by simp only [List.length_cons, List.length_nil]; omega), fun L hL => ?_⟩
  have jL := (Kp.refl (m := none) HG).new (o := .lst ([.ref t10] ++ vf)) hL
  have jF := (j01.trans kG).trans jL
  have hdL := jL.of (kG.of hd1)
  have hLL : (upd HG L (.lst ([.ref t10] ++ vf))) L = some (.lst ([.ref t10] ++ vf)) := upd_same
  have rOR : RpA K (upd HG L (.lst ([.ref t10] ++ vf))) ([.ref t10] ++ vf) ((mainR :: RW.filter notMain).map encRw) := by
    refine RpA.app (.one (R10'.mono (kG.tle.trans jL.tle))) (rvf.mono jL.tle)
  have nLd : L ≠ d := fun e => by
    have := kG.of hd1
    rw [e, this] at hL
    cases hL
  have LF : HF L = none := (j01.trans kG).dom _ hL
  have nL := new_ne GF LF
  rw [← hOR] at rOR
  generalize hvL : [V.ref t10] ++ vf = vL at jL jF hdL hLL rOR ⊢
  generalize upd HG L (.lst vL) = HL at jL jF hdL hLL rOR ⊢
  refine ⟨L, rfl, ⟨_, .inl (.inl hLL)⟩, for_dl encRw (ORf r3.toNat r4.toNat) rOR (fun l σ' H' => (∃ y, σ' = [some (.ref st), some (.ref sc), some (.ref sh), some (.ref l7), some (.int r4), some (.ref pcl), some (.ref d), y]) ∧ Kp (some st) HF H' ∧ TLe HL H' ∧ Gn K ns st sc H' ∧ H' L = some (.lst vL) ∧
      ∃ kvs : List (Key × V), H' d = some (.dK kvs) ∧ kvs.length ≤ l.length ∧ ∀ x ∈ l, ∃ y b, valV kvs (.inr x.1) = some y ∧ Rp K H' y (encPr ⟨x.1, x.2, b⟩) ∧ WB 3 900 b)
    ⟨⟨_, rfl⟩, jF.up, TLe.refl _, GF.keep jF, hLL, [], hdL, Nat.zero_le _, by simp⟩ (fun l' σ' H' z => ⟨z.2.2.1, .inl (.inl z.2.2.2.2.1)⟩) ?_ ?_⟩
  · rintro pre x post y σ' H' el ry ⟨⟨z1, rfl⟩, k1, t1, G1', hL1, kvs, hd1, lk, hkv⟩
    have hxo : x ∈ ORf r3.toNat r4.toNat := by rw [el]; simp
    have ry0 := ry
    obtain ⟨a, v1, v2, rfl, ha, s1, s2⟩ := ry.t2
    rw [s1.str_inv] at ha
    refine ⟨_, rfl, _, rfl, _, rfl, _, rfl, _, rfl, st, sc, sh, pcl, .ref a, gl, x.2, x.1, _, rfl, G1', k1.of hshF nsh, nsh, glok.1, by have := glok.2.2.2; omega, ry0, fun z hz => (ok.nm x hxo z hz).1, by have := ok.pl x hxo; omega, PCF.keep k1, fun u b H3 k3 G3 q3 w3 => ?_⟩
    have hd3 := k3.of hd1 nd
    have lpre : pre.length < (ORf r3.toNat r4.toNat).length := by rw [el]; simp
    refine ⟨_, rfl, _, rfl, _, _, _, _, rfl, rfl, k3.tle.seqT ha, rfl, d, _, rfl, DPut.k (k := .inr x.1) hd3 (small_lt (by omega)), ?_⟩
    have kp := (k1.trans k3).put (o := .dK (putK kvs (.inr x.1) u)) dF
    have tp : TLe H3 (upd H3 d (.dK (putK kvs (.inr x.1) u))) := fun z => ⟨fun xs h => by rw [upd_ne (ne_of h hd3 (by intro z; cases z))]; exact h, fun o u h => by rw [upd_ne (ne_of h hd3 (by intro z; cases z))]; exact h⟩
    refine ⟨⟨_, rfl⟩, kp, (t1.trans k3.tle).trans tp, GF.put G3 kp nd', by rw [upd_ne nLd]; exact k3.of hL1 nL, _, upd_same, ?_, ?_⟩
    · have := length_putK kvs (.inr x.1) u
      rw [List.length_append]
      simp only [List.length_cons, List.length_nil]
      omega
    · intro z hz
      rw [valV_put]
      rcases List.mem_append.mp hz with hz | hz
      · have hne : ¬ ((.inr z.1 : Key) = .inr x.1) := fun e => by
          have e := Sum.inr.inj e
          have hn := ok.ond
          rw [el, List.map_append, List.nodup_append] at hn
          exact hn.2.2 z.1 (List.mem_map.mpr ⟨z, hz, rfl⟩) x.1 (by simp) e
        rw [if_neg hne]
        obtain ⟨y, b', e1, e2, e3⟩ := hkv z hz
        exact ⟨y, b', e1, (e2.mono k3.tle).mono tp, e3⟩
      · rw [List.mem_singleton.mp hz, if_pos rfl]
        exact ⟨u, b, rfl, q3.mono tp, w3⟩
  · rintro σ' H' ⟨⟨z1, rfl⟩, k1, t1, G1', hL1, kvs, hd1, lk, hkv⟩
    have hbf : ∃ bf : Rw0 → List Stm, ∀ x ∈ ORf r3.toNat r4.toNat, ∃ y, valV kvs (.inr x.1) = some y ∧ Rp K H' y (encPr ⟨x.1, x.2, bf x⟩) ∧ WB 3 900 (bf x) := by
      refine ⟨fun x => Classical.epsilon fun b => ∃ y, valV kvs (.inr x.1) = some y ∧ Rp K H' y (encPr ⟨x.1, x.2, b⟩) ∧ WB 3 900 b, fun x hx => ?_⟩
      obtain ⟨y, b, h⟩ := hkv x hx
      exact Classical.epsilon_spec (p := fun b => ∃ y, valV kvs (.inr x.1) = some y ∧ Rp K H' y (encPr ⟨x.1, x.2, b⟩) ∧ WB 3 900 b) ⟨b, y, h⟩
    obtain ⟨bf, hbf⟩ := hbf
    have hsh1 := k1.of hshF nsh
    refine ⟨_, rfl, sh, _, rfl, .inl ⟨.inl (.inl hsh1), fun a1 ha1 => ?_⟩⟩
    have c1 := (Kp.refl (m := none) H').new (o := .tup (gl.map V.str)) ha1
    have hR4 := c1.of (k1.of hRF nR)
    refine ⟨_, rfl, l7, rfl, ⟨_, .inl (.inl hR4)⟩, fun D3 hD3 => lc_dl (m := none) encRw (fun x => encPr ⟨x.1, x.2, bf x⟩) RW (.inl (.inl hR4)) (by simp) (RWF.mono (k1.tle.trans c1.tle)) hD3 (.inr rfl) (small_lt (by omega)) ?_ ?_⟩
    · intro x y H5 hx k ry R hR2
      obtain ⟨a, v1, v2, rfl, ha, s1, s2⟩ := ry.t2
      rw [s1.str_inv] at ha
      obtain ⟨y, hy, r, _⟩ := hbf x (okS x hx)
      refine ⟨rfl, _, rfl, _, rfl, _, _, _, _, rfl, rfl, ha, rfl, d, y, rfl, ?_, hR2 _ _ (Kp.refl _) ((r.mono c1.tle).mono k.tle)⟩
      rw [← hy]
      exact DGet.k (k := .inr x.1) (k.of (c1.of hd1))
    · intro H5 k5 ls5
      obtain ⟨vs5, h5, r5⟩ := ls5
      refine ⟨D3, vs5, rfl, .inl ⟨.inl (.inl h5), fun a2 ha2 => ⟨small_le (by simp), fun tt htt => ?_⟩⟩⟩
      have c2 := ((c1.trans k5).new (o := .tup vs5) ha2).new (o := .tup [.ref a1, .ref a2]) htt
      have Ra1 := Rp.mk ha1 (RpA.strs (K := K) gl)
      have e5 : RW.map (fun x => encPr ⟨x.1, x.2, bf x⟩) = (RW.map fun x => (⟨x.1, x.2, bf x⟩ : Pr)).map encPr := by rw [List.map_map]; rfl
      rw [e5] at r5
      have RR := Rp.mk htt (.cons (Ra1.mono (k5.tle.trans (TLe.new ha2))) (.cons (Rp.mk ha2 r5) .nil))
      refine q _ ⟨gl, RW.map fun (x : Rw0) => (⟨x.1, x.2, bf x⟩ : Pr)⟩ _ ((kHF.trans k1).trans c2.up) (G1'.keep c2) RR ?_
      have hnm : ((RW.map fun x => (⟨x.1, x.2, bf x⟩ : Pr)).map (·.name)) = RW.map (·.1) := by rw [List.map_map]; rfl
      have hnd : ((RW.map fun x => (⟨x.1, x.2, bf x⟩ : Pr)).map (·.name)).Nodup := by
        rw [hnm, ← hRW]; exact ok.rnd
      refine ⟨glok.1, glok.2.1, hnd, fun p hp => ?_, ?_⟩
      · obtain ⟨x, hx, rfl⟩ := List.mem_map.mp hp
        have hxo := okS x hx
        obtain ⟨_, _, _, wb⟩ := hbf x hxo
        exact ⟨ok.pn x hxo, fun y hy => (ok.nm x hxo y hy).1, ok.pnd x hxo, fun y hy hg => (ok.nm x hxo y hy).2 (glok.2.2.1 y hg), wb.dep, wb.cnt, wb.pay⟩
      · have hm : mainR ∈ RW := by rw [← hRW]; exact ok.main
        exact ⟨⟨"main", [], bf mainR⟩, find_of hnd (List.mem_map.mpr ⟨mainR, hm, rfl⟩), rfl⟩
end
end Cl

/-! Carryclaim, the law's own defs: _law_same. -/
namespace Cl
open PySem PySem.Spec PyProof.Rows L2
theorem shownAll_map : ∀ ds : List PyData, PyData.shownAll ds = ds.map PyData.shown
  | [] => by simp [PyData.shownAll]
  | d :: ds => by simp only [PyData.shownAll, List.map_cons, shownAll_map ds]
theorem piled_mem : ∀ {ts : List Str} {t : Str}, t ∈ ts → t.length + 2 ≤ PySem.piled ts
  | [], _, h => by simp at h
  | x :: ts, t, h => by
    rw [PySem.piled_cons]
    rcases List.mem_cons.mp h with rfl | h
    · omega
    · have := piled_mem h; omega
theorem piled_len : ∀ ts : List Str, 2 * ts.length ≤ PySem.piled ts
  | [] => by simp
  | x :: ts => by have := piled_len ts; rw [PySem.piled_cons, List.length_cons]; omega
theorem tup_ge (ds : List PyData) : PySem.piled (PyData.shownAll ds) ≤ (PyData.tuple ds).shown.length := by
  simp only [PyData.shown]
  have z : ∀ ts : List Str, PySem.piled ts ≤ (PySem.tupleText ts).length := fun ts => by
    cases ts with
    | nil => exact Nat.zero_le _
    | cons x r =>
      unfold PySem.tupleText
      rw [ln_app, ln_app]
      have := PySem.join_length_add (x :: r) (by simp)
      have e1 : ("(" : Str).length = 1 := by decide +kernel
      have e2 : 1 ≤ ((if (x :: r).length == 1 then ",)" else ")" : String) : Str).length := by
        split
        · decide +kernel
        · decide +kernel
      omega
  exact z _
theorem tup_mem {ds : List PyData} {d : PyData} (h : d ∈ ds) : d.shown.length ≤ (PyData.tuple ds).shown.length := by
  have := piled_mem (ts := PyData.shownAll ds) (t := d.shown) (by rw [shownAll_map]; exact List.mem_map.mpr ⟨d, h, rfl⟩)
  have := tup_ge ds
  omega
theorem tup_len (ds : List PyData) : ds.length ≤ (PyData.tuple ds).shown.length := by
  have := piled_len (PyData.shownAll ds)
  have := tup_ge ds
  rw [shownAll_map, List.length_map] at *
  omega
theorem depthAll_mem : ∀ {ds : List PyData} {d : PyData}, d ∈ ds → d.depth ≤ PyData.depthAll ds
  | [], _, h => by simp at h
  | x :: ds, d, h => by
    simp only [PyData.depthAll]
    rcases List.mem_cons.mp h with rfl | h
    · omega
    · have := depthAll_mem h; omega
theorem tup_ty {K : PySem.W.Frag} {H : Hp} {a : Addr} {xs : List V} (h : SqT K H a xs) : TyX K H (.ref a) (.type "tuple") := by
  rcases h with (h | ⟨o, h⟩) | ⟨o, _, _, h1, h2, _⟩
  · exact .base (.tup h)
  · exact .fTuple h
  · exact .kTuple h1 h2
theorem kb1 : kitB "int" "tuple" = some false := by first | rfl | decide +kernel
theorem kb2 : kitB "int" "bool" = some false := by first | rfl | decide +kernel
theorem kb3 : kitB "int" "int" = some true := by first | rfl | decide +kernel
theorem kb4 : kitB "str" "tuple" = some false := by first | rfl | decide +kernel
theorem kb5 : kitB "str" "bool" = some false := by first | rfl | decide +kernel
theorem kb6 : kitB "str" "int" = some false := by first | rfl | decide +kernel
theorem kb7 : kitB "str" "str" = some true := by first | rfl | decide +kernel
theorem kb8 : kitB "tuple" "tuple" = some true := by first | rfl | decide +kernel
def spSame (K : PySem.W.Frag) (n : Nat) : Sp := fun vs H Q _ => ∃ (x y : V) (d : PyData), vs = [x, y] ∧ Rp K H x d ∧ Rp K H y d ∧ d.depth ≤ n ∧ (d.shown.length ≤ 16777216 ∨ ∃ z, d = .str z) ∧ ∀ H', Kp none H H' → Q (.bl true) H'
section
variable {P : Program} {w : World} {K : PySem.W.Frag} {mg : Str → Option Value} {base : Heap}
abbrev s_law_same : Stmt := top 34
abbrev N_law_same : List Str := ["_law_actual", "_law_due", "_law_k"]
theorem sc_law_same : FnScope N_law_same ["_law_actual", "_law_due"] (defScope s_law_same) := ⟨rfl, rfl, rfl, by decide +kernel, rfl, by decide +kernel, by decide +kernel⟩
theorem ok_same_step {n : Nat} (T : Bl mg) (D : Df K mg "_law_same" s_law_same ["_law_actual", "_law_due"]) (G_law_same : Kn P w K mg base n "_law_same" ["_law_actual", "_law_due"] (fun vs H Q E => ∃ j, n = j + 1 ∧ spSame K j vs H Q E)) :
    Kn P w K mg base (n + 1) "_law_same" ["_law_actual", "_law_due"] (spSame K n) := by
  refine D.ok sc_law_same (fun vs H Q E h => ?_) (fun f cdv A outer s H vs Q E hr h => ?_)
  · obtain ⟨x, y, d, rfl, _⟩ := h
    rfl
  obtain ⟨x, y, d, rfl, hx, hy, hd, hl, q⟩ := h
  refine ⟨_, (pss_cons (ps_if (pt_cmpR op_isN (pv 1) pe_non (nomark _)) (pss_one (ps_ret (pe_cmpR op_isN (pv 0) pe_non (nomark _)))) pss_nil)
    (pss_cons (ps_if (pt_val (pe_callB call_isi (by rfl) T.isinstance (by decide +kernel) (pa_cons (pv 1) (pa_cons (pe_bltn (v := .ty "tuple") (by rfl) T.tuple (by decide +kernel) rfl) pa_nil)))) (pss_cons (ps_if (PW.pt (pw_or (pt_not (pt_val (pe_callB call_isi (by rfl) T.isinstance (by decide +kernel) (pa_cons (pv 0) (pa_cons (pe_bltn (v := .ty "tuple") (by rfl) T.tuple (by decide +kernel) rfl) pa_nil))))) (pw_or1 (pt_cmpR op_ne (pe_callB call_len_seq (by rfl) T.len (by decide +kernel) (pa_cons (pv 0) pa_nil)) (pe_callB call_len_seq (by rfl) T.len (by decide +kernel) (pa_cons (pv 1) pa_nil)) (nomark _))))) (pss_one (ps_ret pe_bl)) pss_nil)
      (pss_cons (ps_for PassesOwn.never rfl (pi_range1 (by rfl) T.range (pa_cons (pe_callB call_len_seq (by rfl) T.len (by decide +kernel) (pa_cons (pv 1) pa_nil)) pa_nil)) (pg_name (i := 2) sc_law_same.nd rfl (by first | exact Or.inl rfl | exact Or.inr rfl)) (pss_one (ps_if (pt_not (pt_val (pe_kn G_law_same hr (pa_cons (pe_ix ix_tup (pv 0) (pv 2) (fun _ _ => rfl)) (pa_cons (pe_ix ix_tup (pv 1) (pv 2) (fun _ _ => rfl)) pa_nil)) (Nat.le_refl _)))) (pss_one (ps_ret pe_bl)) pss_nil)))
      (pss_one (ps_ret pe_bl)))) pss_nil)
    (pss_cons (ps_if (pt_val (pe_callB call_isi (by rfl) T.isinstance (by decide +kernel) (pa_cons (pv 1) (pa_cons (pe_bltn (v := .ty "bool") (by rfl) T.bool (by decide +kernel) rfl) pa_nil)))) (pss_one (ps_ret (pe_and (pe_callB call_isi (by rfl) T.isinstance (by decide +kernel) (pa_cons (pv 0) (pa_cons (pe_bltn (v := .ty "bool") (by rfl) T.bool (by decide +kernel) rfl) pa_nil))) (pe_one (pe_cmpR op_eq (pv 0) (pv 1) (nomark _)))))) pss_nil)
    (pss_cons (ps_if (pt_val (pe_callB call_isi (by rfl) T.isinstance (by decide +kernel) (pa_cons (pv 1) (pa_cons (pe_bltn (v := .ty "int") (by rfl) T.int (by decide +kernel) rfl) pa_nil)))) (pss_one (ps_ret (pe_and (pe_callB call_isi (by rfl) T.isinstance (by decide +kernel) (pa_cons (pv 0) (pa_cons (pe_bltn (v := .ty "int") (by rfl) T.int (by decide +kernel) rfl) pa_nil))) (pe_and (pe_not (pe_callB call_isi (by rfl) T.isinstance (by decide +kernel) (pa_cons (pv 0) (pa_cons (pe_bltn (v := .ty "bool") (by rfl) T.bool (by decide +kernel) rfl) pa_nil)))) (pe_one (pe_cmpR op_eq (pv 0) (pv 1) (nomark _))))))) pss_nil)
    (pss_one (ps_ret (pe_and (pe_callB call_isi (by rfl) T.isinstance (by decide +kernel) (pa_cons (pv 0) (pa_cons (pe_bltn (v := .ty "str") (by rfl) T.str (by decide +kernel) rfl) pa_nil))) (pe_one (pe_cmpR op_eq (pv 0) (pv 1) (nomark _)))))))))), ?_⟩
  have q0 := q H (Kp.refl _)
  cases hy with
  | non =>
    rw [hx.non_inv]
    exact ⟨_, rfl, rfl, _, rfl, _, rfl, rfl, q0⟩
  | int i =>
    rw [hx.int_inv]
    refine ⟨_, rfl, rfl, _, rfl, ?_⟩
    refine ⟨_, rfl, _, _, _, _, false, rfl, .ty "tuple", .base (.int i), kit_ty kb1, _, rfl, ?_⟩
    refine ⟨_, rfl, _, _, _, _, false, rfl, .ty "bool", .base (.int i), kit_ty kb2, _, rfl, ?_⟩
    refine ⟨_, rfl, _, _, _, _, true, rfl, .ty "int", .base (.int i), kit_ty kb3, _, rfl, ?_⟩
    refine ⟨_, rfl, _, _, _, _, true, rfl, .ty "int", .base (.int i), kit_ty kb3, _, rfl, ?_⟩
    refine ⟨_, rfl, _, _, _, _, false, rfl, .ty "bool", .base (.int i), kit_ty kb2, _, rfl, _, rfl, ?_⟩
    refine ⟨_, rfl, _, rfl, rfl, ?_⟩
    rw [decide_eq_true rfl]
    exact q0
  | str z =>
    rw [hx.str_inv]
    refine ⟨_, rfl, rfl, _, rfl, ?_⟩
    refine ⟨_, rfl, _, _, _, _, false, rfl, .ty "tuple", .base (.str z), kit_ty kb4, _, rfl, ?_⟩
    refine ⟨_, rfl, _, _, _, _, false, rfl, .ty "bool", .base (.str z), kit_ty kb5, _, rfl, ?_⟩
    refine ⟨_, rfl, _, _, _, _, false, rfl, .ty "int", .base (.str z), kit_ty kb6, _, rfl, ?_⟩
    refine ⟨_, rfl, _, _, _, _, true, rfl, .ty "str", .base (.str z), kit_ty kb7, _, rfl, ?_⟩
    refine ⟨_, rfl, _, rfl, rfl, ?_⟩
    rw [decide_eq_true rfl]
    exact q0
  | @tup b ws ds hb rb =>
    obtain ⟨a, vs, rfl, ha, ra⟩ := hx.tup_inv
    have lA := ra.len
    have lB := rb.len
    have hl : (PyData.tuple ds).shown.length ≤ 16777216 := by
      rcases hl with h | ⟨z, h⟩
      · exact h
      · cases h
    have hll := tup_len ds
    simp only [PyData.depth] at hd
    obtain ⟨m, rfl⟩ : ∃ m, n = m + 1 := ⟨n - 1, by omega⟩
    refine ⟨_, rfl, rfl, _, rfl, ?_⟩
    refine ⟨_, rfl, _, _, _, _, true, rfl, .ty "tuple", tup_ty hb, kit_ty kb8, _, rfl, ?_⟩
    refine ⟨_, rfl, _, _, _, _, true, rfl, .ty "tuple", tup_ty ha, kit_ty kb8, _, rfl, ?_⟩
    refine ⟨_, rfl, _, _, rfl, .inr ha, _, rfl, _, _, rfl, .inr hb, rfl, _, rfl, ?_⟩
    rw [show vs.length = ws.length by omega]
    refine ite2 (fun h => absurd h (by simp)) (fun _ => ?_)
    have lt62 : ∀ z : Int, z < 20000000 → z < 2 ^ 62 := fun z h => Int.lt_trans h (by decide)
    have ge62 : ∀ z : Int, 0 ≤ z → -(2 ^ 62) ≤ z := fun z h => Int.le_trans (by decide) h
    refine ⟨_, rfl, _, _, rfl, .inr hb, _, rfl, ge62 _ (by omega), lt62 _ (by omega), for_range (fun i σ' H' => (∃ z, σ' = [some (.ref a), some (.ref b), z]) ∧ Kp none H H') ⟨⟨_, rfl⟩, Kp.refl _⟩ ?_ ?_⟩
    · rintro i σ' H' hi ⟨⟨z, rfl⟩, k⟩
      have hi2 : i < ds.length := by omega
      have hdi : ds[i]? = some ds[i] := List.getElem?_eq_getElem hi2
      obtain ⟨v1, h1, r1⟩ := ra.get' hdi
      obtain ⟨v2, h2, r2⟩ := rb.get' hdi
      have hm : ds[i] ∈ ds := List.getElem_mem hi2
      have hdm := depthAll_mem hm
      have hsm := tup_mem hm
      have e0 : (0 : Int) + ((i : Nat) : Int) = ((i : Nat) : Int) := by omega
      rw [e0]
      refine ⟨_, rfl, _, rfl, _, _, _, _, rfl, rfl, k.tle.seqT ha, atI_nat (j := i) h1, _, rfl, _, rfl, _, _, _, _, rfl, rfl, k.tle.seqT hb, atI_nat (j := i) h2, m, rfl, v1, v2, ds[i], rfl, r1.mono k.tle, r2.mono k.tle, by omega, .inl (by omega), fun H2 k2 => ⟨_, rfl, ?_⟩⟩
      exact ⟨⟨_, rfl⟩, k.trans k2⟩
    · rintro σ' H' ⟨⟨z, rfl⟩, k⟩
      exact q _ k
theorem ok_same (T : Bl mg) (D : Df K mg "_law_same" s_law_same ["_law_actual", "_law_due"]) : ∀ n, Kn P w K mg base (n + 1) "_law_same" ["_law_actual", "_law_due"] (spSame K n) := by
  intro n
  induction n with
  | zero => exact ok_same_step T D (D.vac fun vs H Q E h => by obtain ⟨j, hj, _⟩ := h; omega)
  | succ n ih => exact ok_same_step T D (ih.imp fun vs H Q E h => by
      obtain ⟨j, hj, h⟩ := h
      obtain rfl : n = j := by omega
      exact h)
end
end Cl

/-! Carryclaim, the law's own defs: _law_blocks, _law_all, _law_targets, _law_place. -/
namespace Cl
open PySem PySem.Spec PyProof.Rows L2
def spLbs (K : PySem.W.Frag) : Sp := fun vs H Q _ => ∃ (v : V) (s : Stm), vs = [v] ∧ Rp K H v (encS s) ∧ ∀ p H', Kp none H H' → H p = none → Ls K H' p ((blks s).map encB) → Q (.ref p) H'
def spLtg (K : PySem.W.Frag) : Sp := fun vs H Q _ => ∃ (v : V) (s : Stm), vs = [v] ∧ Rp K H v (encS s) ∧ ∀ p H', Kp none H H' → H p = none → H' p = some (.lst ((tgt s).toList.map V.str)) → Q (.ref p) H'
theorem blks_len (s : Stm) : (blks s).length ≤ 2 := by cases s <;> simp [blks]
section
variable {P : Program} {w : World} {K : PySem.W.Frag} {mg : Str → Option Value} {base : Heap}
abbrev s_law_blocks : Stmt := top 44
abbrev N_law_blocks : List Str := ["_law_statement_here"]
theorem sc_law_blocks : FnScope N_law_blocks ["_law_statement_here"] (defScope s_law_blocks) := ⟨rfl, rfl, rfl, by decide +kernel, rfl, by decide +kernel, by decide +kernel⟩
theorem ok_law_blocks (D : Df K mg "_law_blocks" s_law_blocks ["_law_statement_here"]) : Kn P w K mg base 1 "_law_blocks" ["_law_statement_here"] (spLbs K) := by
  refine D.ok sc_law_blocks (fun vs H Q E h => ?_) (fun f cdv A outer s H vs Q E hr h => ?_)
  · obtain ⟨v, s, rfl, _⟩ := h
    rfl
  obtain ⟨v, st, rfl, hv, q⟩ := h
  refine ⟨_, (pss_cons (ps_if (pt_cmpR op_eq (pe_ix ix_tup (pv 0) pe_int (fun _ _ => rfl)) pe_str (nomark _)) (pss_one (ps_ret (pe_lst (pa_cons (pe_ix ix_tup (pv 0) pe_int (fun _ _ => rfl)) (pa_cons (pe_ix ix_tup (pv 0) pe_int (fun _ _ => rfl)) pa_nil))))) pss_nil)
    (pss_cons (ps_if (pt_cmpR op_eq (pe_ix ix_tup (pv 0) pe_int (fun _ _ => rfl)) pe_str (nomark _)) (pss_one (ps_ret (pe_lst (pa_cons (pe_ix ix_tup (pv 0) pe_int (fun _ _ => rfl)) pa_nil)))) pss_nil)
    (pss_one (ps_ret (pe_lst pa_nil))))), ?_⟩
  obtain ⟨a, ws, rfl, hs⟩ := hv.tag
  refine ⟨_, rfl, _, _, _, _, rfl, rfl, hs, at0, rfl, _, rfl, ?_⟩
  refine ite2 (fun hx => ?_) (fun hx => ?_)
  · obtain ⟨c, b1, b2, rfl⟩ := tag_if (s := st) (by simpa using hx)
    rw [encS_ite] at hv
    obtain ⟨a', v1, v2, v3, v4, e, hs', r1, r2, r3, r4⟩ := hv.t4
    cases e
    refine ⟨_, rfl, _, _, _, _, rfl, rfl, hs', rfl, _, rfl, _, _, _, _, rfl, rfl, hs', rfl, small_le (by simp), fun p hp => ?_⟩
    exact q _ _ ((Kp.refl _).new hp) hp ⟨_, upd_same, (RpA.cons r3 (.cons r4 .nil)).mono (TLe.new hp)⟩
  have h1 : tagS st ≠ "if" := by simpa using hx
  refine ⟨_, rfl, _, _, _, _, rfl, rfl, hs, at0, rfl, _, rfl, ?_⟩
  refine ite2 (fun hx => ?_) (fun hx => ?_)
  · obtain ⟨c, b1, rfl⟩ := tag_while (s := st) (by simpa using hx)
    rw [encS_loop] at hv
    obtain ⟨a', v1, v2, v3, e, hs', r1, r2, r3⟩ := hv.t3
    cases e
    refine ⟨_, rfl, _, _, _, _, rfl, rfl, hs', rfl, small_le (by simp), fun p hp => ?_⟩
    exact q _ _ ((Kp.refl _).new hp) hp ⟨_, upd_same, (RpA.cons r3 .nil).mono (TLe.new hp)⟩
  have h2 : tagS st ≠ "while" := by simpa using hx
  refine ⟨small_le (by simp), fun p hp => ?_⟩
  refine q _ _ ((Kp.refl _).new hp) hp ?_
  rw [blks_no h1 h2]
  exact ⟨_, upd_same, .nil⟩

abbrev s_law_targets : Stmt := top 46
abbrev N_law_targets : List Str := ["_law_statement_here"]
theorem sc_law_targets : FnScope N_law_targets ["_law_statement_here"] (defScope s_law_targets) := ⟨rfl, rfl, rfl, by decide +kernel, rfl, by decide +kernel, by decide +kernel⟩
theorem ok_law_targets (D : Df K mg "_law_targets" s_law_targets ["_law_statement_here"]) : Kn P w K mg base 1 "_law_targets" ["_law_statement_here"] (spLtg K) := by
  refine D.ok sc_law_targets (fun vs H Q E h => ?_) (fun f cdv A outer s H vs Q E hr h => ?_)
  · obtain ⟨v, s, rfl, _⟩ := h
    rfl
  obtain ⟨v, st, rfl, hv, q⟩ := h
  refine ⟨_, (pss_cons (ps_if (pt_cmpR op_in_seq (pe_ix ix_tup (pv 0) pe_int (fun _ _ => rfl)) (pe_tup (pa_cons pe_str (pa_cons pe_str pa_nil))) rfl) (pss_one (ps_ret (pe_lst (pa_cons (pe_ix ix_tup (pv 0) pe_int (fun _ _ => rfl)) pa_nil)))) pss_nil)
    (pss_cons (ps_if (PW.pt (pw_and (pt_cmpR op_eq (pe_ix ix_tup (pv 0) pe_int (fun _ _ => rfl)) pe_str (nomark _)) (pw_and1 (pt_cmpR op_notN (pe_ix ix_tup (pv 0) pe_int (fun _ _ => rfl)) pe_non (nomark _))))) (pss_one (ps_ret (pe_lst (pa_cons (pe_ix ix_tup (pv 0) pe_int (fun _ _ => rfl)) pa_nil)))) pss_nil)
    (pss_one (ps_ret (pe_lst pa_nil))))), ?_⟩
  obtain ⟨a, ws, rfl, hs⟩ := hv.tag
  refine ⟨_, rfl, _, _, _, _, rfl, rfl, hs, at0, small_le (by simp), fun p hp => ?_⟩
  have k1 : Kp none H (upd H p (.tup [.str "set", .str "ask"])) := (Kp.refl _).new hp
  refine ⟨p, _, rfl, .inr (.inl (.inl upd_same)), rfl, rfl, _, rfl, ?_⟩
  rw [inV_pair]
  refine ite2 (fun hx => ?_) (fun hx => ?_)
  · rcases tag_sa (s := st) (by simpa using hx) with ⟨x, e, rfl⟩ | ⟨x, rfl⟩
    · simp only [encS] at hv
      obtain ⟨a', v1, v2, v3, e, hs', r1, r2, r3⟩ := hv.t3
      cases e
      rw [r2.str_inv] at hs'
      exact ⟨_, rfl, _, _, _, _, rfl, rfl, k1.tle.seqT hs', rfl, small_le (by simp), fun o ho => q _ _ (k1.new ho) (k1.dom _ ho) upd_same⟩
    · simp only [encS] at hv
      obtain ⟨a', v1, v2, e, hs', r1, r2⟩ := hv.t2
      cases e
      rw [r2.str_inv] at hs'
      exact ⟨_, rfl, _, _, _, _, rfl, rfl, k1.tle.seqT hs', rfl, small_le (by simp), fun o ho => q _ _ (k1.new ho) (k1.dom _ ho) upd_same⟩
  have h1 : ¬ (tagS st = "set" ∨ tagS st = "ask") := by simpa using hx
  refine ⟨_, rfl, _, _, _, _, rfl, rfl, k1.tle.seqT hs, at0, rfl, _, rfl, ?_⟩
  refine ite2 (fun hx => ?_) (fun hx => ?_)
  · obtain ⟨g, us, t, rfl⟩ := tag_call (s := st) (by simpa using hx)
    simp only [encS] at hv
    obtain ⟨a', v1, v2, v3, v4, e, hs', r1, r2, r3, r4⟩ := hv.t4
    cases e
    cases t with
    | none =>
      rw [r4.non_inv] at hs'
      exact ⟨_, rfl, _, _, _, _, rfl, rfl, k1.tle.seqT hs', rfl, rfl, _, rfl, small_le (by simp), fun o ho => q _ _ (k1.new ho) (k1.dom _ ho) upd_same⟩
    | some x =>
      rw [r4.str_inv] at hs'
      exact ⟨_, rfl, _, _, _, _, rfl, rfl, k1.tle.seqT hs', rfl, rfl, _, rfl, _, rfl, _, _, _, _, rfl, rfl, k1.tle.seqT hs', rfl, small_le (by simp), fun o ho => q _ _ (k1.new ho) (k1.dom _ ho) upd_same⟩
  have h2 : tagS st ≠ "call" := by simpa using hx
  refine ⟨small_le (by simp), fun o ho => q _ _ (k1.new ho) (k1.dom _ ho) ?_⟩
  rw [tgt_no (fun e => h1 (.inl e)) (fun e => h1 (.inr e)) h2]
  exact upd_same

abbrev s_law_all : Stmt := top 45
abbrev N_law_all : List Str := ["_law_block_here", "_law_found", "_law_statement_here", "_law_inner"]
theorem sc_law_all : FnScope N_law_all ["_law_block_here"] (defScope s_law_all) := ⟨rfl, rfl, rfl, by decide +kernel, rfl, by decide +kernel, by decide +kernel⟩
theorem ok_lall_step {n : Nat} (D : Df K mg "_law_all" s_law_all ["_law_block_here"]) (G_law_blocks : Kn P w K mg base 1 "_law_blocks" ["_law_statement_here"] (spLbs K)) (G_law_all : Kn P w K mg base (n + 1) "_law_all" ["_law_block_here"] (fun vs H Q E => ∃ j, j < n ∧ spAll K j vs H Q E)) :
    Kn P w K mg base (n + 2) "_law_all" ["_law_block_here"] (spAll K n) := by
  refine D.ok sc_law_all (fun vs H Q E h => ?_) (fun f cdv A outer s H vs Q E hr h => ?_)
  · obtain ⟨v, b, rfl, _⟩ := h
    rfl
  obtain ⟨v, b, rfl, hv, hdep, hlen, q⟩ := h
  refine ⟨_, (pss_cons (ps_set (i := 1) sc_law_all.nd rfl (by first | exact Or.inl rfl | exact Or.inr rfl) (pe_lst pa_nil))
    (pss_cons (ps_for PassesOwn.never rfl (pi_tup (pv 0)) (pg_name (i := 2) sc_law_all.nd rfl (by first | exact Or.inl rfl | exact Or.inr rfl)) (pss_cons (ps_expr (pe_bm PySem.F.plainAttrs_list PySem.F.slot_list_append PySem.F.type_list_append mt_append (pv 1) (pa_cons (pv 2) pa_nil)))
      (pss_one (ps_for PassesOwn.never rfl (pi_list (pe_kn G_law_blocks hr (pa_cons (pv 2) pa_nil) (by omega))) (pg_name (i := 3) sc_law_all.nd rfl (by first | exact Or.inl rfl | exact Or.inr rfl)) (pss_one (ps_set (i := 1) sc_law_all.nd rfl (by first | exact Or.inl rfl | exact Or.inr rfl) (pe_op op_cat (pv 1) (pe_kn G_law_all hr (pa_cons (pv 3) pa_nil) (by omega)))))))))
    (pss_one (ps_ret (pv 1))))), ?_⟩
  obtain ⟨a, ws, rfl, hs, r0⟩ := hv.tup_inv
  refine ⟨Nat.zero_le _, fun o ho => ?_⟩
  have k0 : Kp none H (upd H o (.lst [])) := (Kp.refl _).new ho
  refine ⟨_, rfl, a, rfl, ⟨ws, k0.tle.seqT hs⟩, for_dt encS b (k0.tle.seqT hs) (r0.mono k0.tle)
    (fun l σ' H' => ∃ o', (∃ y z, σ' = [some (.ref a), some (.ref o'), y, z]) ∧ Kp none H H' ∧ TLe (upd H o (.lst [])) H' ∧ H o' = none ∧ Ls K H' o' ((allL l).map encS))
    ⟨o, ⟨_, _, rfl⟩, k0, TLe.refl _, ho, [], upd_same, by simpa [allL] using RpA.nil⟩ (fun l σ' H' z => by obtain ⟨_, _, _, t, _⟩ := z; exact t) ?_ ?_⟩
  · rintro pre x post y σ' H' e ry ⟨o1, ⟨z1, z2, rfl⟩, k1, t1, no1, vs1, hl1, rl1⟩
    have hlen1 : (allL pre).length + (allS x).length ≤ 1000 := by
      rw [e, allL_append] at hlen
      simp only [allL, List.length_append] at hlen
      omega
    have hl2 : vs1.length = (allL pre).length := by rw [rl1.len, List.length_map]
    have hx1 : 1 ≤ (allS x).length := by rw [allS_blks]; simp
    have hdx : depS x ≤ n := Nat.le_trans (depL_mem (by rw [e]; simp)) hdep
    refine ⟨_, rfl, .inl ⟨rfl, _, .inl (.inl hl1)⟩, _, rfl, o1, vs1, _, rfl, rfl, hl1, small_lt (by omega), ?_⟩
    have k2 : Kp none H (upd H' o1 (.lst (vs1 ++ [y]))) := k1.put no1
    have t2 : TLe H' (upd H' o1 (.lst (vs1 ++ [y]))) := TLe.put hl1
    have rl2 : RpA K (upd H' o1 (.lst (vs1 ++ [y]))) (vs1 ++ [y]) ((allL pre ++ [x]).map encS) := by
      rw [List.map_append]
      exact (rl1.snoc ry).mono t2
    refine ⟨_, rfl, y, x, rfl, ry.mono t2, fun bp H3 k3 n3 ls3 => ?_⟩
    obtain ⟨bv, hbv, rbv⟩ := ls3
    have h3 : H3 o1 = some (.lst (vs1 ++ [y])) := k3.of upd_same
    refine ⟨bp, rfl, ⟨_, .inl (.inl hbv)⟩, for_dl encB (blks x) rbv
      (fun l σ' H' => ∃ o', (∃ z, σ' = [some (.ref a), some (.ref o'), some y, z]) ∧ Kp none H H' ∧ TLe H3 H' ∧ H' bp = some (.lst bv) ∧ H o' = none ∧ Ls K H' o' ((allL pre ++ x :: l.flatMap allL).map encS))
      ⟨o1, ⟨_, rfl⟩, k2.trans k3, TLe.refl _, hbv, no1, _, h3, by simpa using rl2.mono k3.tle⟩ (fun l σ' H' z => by obtain ⟨_, _, _, t, h, _⟩ := z; exact ⟨t, .inl (.inl h)⟩) ?_ ?_⟩
    · rintro pb bb qb yb σ4 H4 eb rb ⟨o2, ⟨z3, rfl⟩, k4, t4, hb4, no2, vs4, hl4, rl4⟩
      have hbm : bb ∈ blks x := by rw [eb]; simp
      have h6 : (allS x).length = 1 + (pb.flatMap allL).length + (allL bb).length + (qb.flatMap allL).length := by
        have h5 := allS_blks x
        rw [eb] at h5
        have h6 := congrArg List.length h5
        simp only [List.length_cons, List.flatMap_append, List.flatMap_cons, List.length_append] at h6
        omega
      have hl5 : vs4.length = (allL pre).length + (1 + (pb.flatMap allL).length) := by
        rw [rl4.len, List.length_map, List.length_append, List.length_cons]; omega
      refine ⟨_, rfl, _, rfl, depL bb, Nat.lt_of_lt_of_le (depS_blk hbm) hdx, yb, bb, rfl, rb, Nat.le_refl _, by omega, fun p5 H5 k5 n5 ls5 => ?_⟩
      obtain ⟨vs5, hl6, rl5⟩ := ls5
      have hl7 : vs5.length = (allL bb).length := by rw [rl5.len, List.length_map]
      refine ⟨o2, p5, vs4, vs5, rfl, rfl, k5.of hl4, hl6, small_le (by omega), fun p6 n6 => ?_⟩
      have k6 := k5.new (o := .lst (vs4 ++ vs5)) n6
      refine ⟨p6, ⟨_, rfl⟩, k4.trans k6, t4.trans k6.tle, k6.of hb4, (k4.trans k5).dom _ n6, vs4 ++ vs5, upd_same, ?_⟩
      have r9 := ((rl4.mono k5.tle).app rl5).mono (TLe.new (o := .lst (vs4 ++ vs5)) n6)
      rw [← List.map_append] at r9
      have e9 : allL pre ++ x :: pb.flatMap allL ++ allL bb = allL pre ++ x :: (pb ++ [bb]).flatMap allL := by simp
      rw [e9] at r9
      exact r9
    · rintro σ4 H4 ⟨o2, ⟨z3, rfl⟩, k4, t4, hb4, no2, l4⟩
      refine ⟨o2, ⟨_, _, rfl⟩, k4, ((t1.trans t2).trans k3.tle).trans t4, no2, ?_⟩
      have e9 : allL pre ++ x :: (blks x).flatMap allL = allL (pre ++ [x]) := by
        rw [allL_append]; simp [allL, allS_blks]
      rw [e9] at l4
      exact l4
  · rintro σ4 H4 ⟨o2, ⟨z3, z4, rfl⟩, k4, t4, no2, l4⟩
    exact ⟨_, rfl, q _ _ k4 no2 l4⟩
theorem ok_lall (D : Df K mg "_law_all" s_law_all ["_law_block_here"]) (G_law_blocks : Kn P w K mg base 1 "_law_blocks" ["_law_statement_here"] (spLbs K)) : ∀ n, Kn P w K mg base (n + 2) "_law_all" ["_law_block_here"] (spAll K n) := by
  intro n
  induction n with
  | zero => exact ok_lall_step (n := 0) D G_law_blocks (D.vac fun vs H Q E h => by obtain ⟨j, hj, _⟩ := h; omega)
  | succ n ih => exact ok_lall_step (n := n + 1) D G_law_blocks (ih.imp fun vs H Q E h => by
      obtain ⟨j, hj, v, b, rfl, h1, h2, h3⟩ := h
      exact ⟨v, b, rfl, h1, by omega, h3⟩)

abbrev s_law_place : Stmt := top 48
abbrev N_law_place : List Str := ["_law_path", "_law_number_here"]
theorem sc_law_place : FnScope N_law_place ["_law_path"] (defScope s_law_place) := ⟨rfl, rfl, rfl, by decide +kernel, rfl, by decide +kernel, by decide +kernel⟩
theorem ok_law_place (T : Bl mg) (D : Df K mg "_law_place" s_law_place ["_law_path"]) : Kn P w K mg base 1 "_law_place" ["_law_path"] (spPathText K) := by
  refine D.ok sc_law_place (fun vs H Q E h => ?_) (fun f cdv A outer s H vs Q E hr h => ?_)
  · obtain ⟨v, p, rfl, _⟩ := h
    rfl
  obtain ⟨v, p, rfl, hv, hl, hs, q⟩ := h
  refine ⟨_, (pss_one (ps_ret (pe_join pe_str (pe_lc (own := [("_law_number_here", 1)]) (g := gName 1) (tt := tYes) rfl sc_law_place.nd (pi_tup (pv 0)) (blkOk_by (own := [("_law_number_here", 1)]) (N := N_law_place) (sc := defScope s_law_place) (by decide +kernel)) (fun _ _ _ _ _ => (pg_name (i := 1) sc_law_place.nd rfl (by first | exact Or.inl rfl | exact Or.inr rfl))) (fun _ _ _ _ _ => pts_nil) (fun _ _ _ _ _ => (pe_callTy call_str_int (by rfl) T.str (by decide +kernel) (pa_cons (pv 1) pa_nil))))))), ?_⟩
  obtain ⟨a, ws, rfl, ha, r⟩ := hv.tup_inv
  refine ⟨⟨_, rfl⟩, _, rfl, a, rfl, ⟨_, ha⟩, fun D hD => lc_dt (m := none) (fun n : Nat => .int ((n : Nat) : Int)) (fun n => .str (numText n)) p ha r hD (.inr rfl) (small_lt (by omega)) ?_ ?_⟩
  · intro n y H' hn k ry R hR
    rw [ry.int_inv]
    exact ⟨rfl, _, rfl, _, rfl, log_nat (hs n hn), hR _ _ (Kp.refl _) (.str _)⟩
  · intro H' k ls
    obtain ⟨vs, h1, r1⟩ := ls
    have e : vs = (p.map numText).map V.str := RpA.strs_eq (xs := p.map numText) (by rw [List.map_map]; exact r1)
    subst e
    refine ⟨dot, D, p.map numText, rfl, rfl, .inl (.inl (.inl h1)), ?_, q _ k⟩
    have h3 : ((p.map numText).map (·.length)).sum ≤ (p.map numText).length * 4 := sum_le fun x hx => by
      obtain ⟨n, hn, rfl⟩ := List.mem_map.mp hx
      exact numText_len (hs n hn)
    rw [List.length_map] at h3 ⊢
    have h4 : dot.length = 1 := by decide +kernel
    rw [h4]
    omega
end
end Cl

/-! Carryclaim, the law's own defs: _law_locals. -/
namespace Cl
open PySem PySem.Spec PyProof.Rows L2
def spLloc (K : PySem.W.Frag) : Sp := fun vs H Q _ => ∃ (v x : V) (gl : List Str) (p : Pr), vs = [v, x] ∧ Rp K H v (.tuple (gl.map .str)) ∧ Rp K H x (encPr p) ∧ WfPr gl p ∧ ∀ o H', Kp none H H' → H o = none → H' o = some (.lst ((locs gl p.ps p.body).map V.str)) → Q (.ref o) H'
def tgs (l : List Stm) : List Str := l.flatMap fun s => (tgt s).toList
theorem tgs_mem {l : List Stm} {x : Str} : x ∈ tgs l ↔ ∃ s ∈ l, tgt s = some x := by
  unfold tgs
  rw [List.mem_flatMap]
  constructor
  · rintro ⟨s, hs, h⟩
    exact ⟨s, hs, by simpa using h⟩
  · rintro ⟨s, hs, h⟩
    exact ⟨s, hs, by simpa using h⟩
theorem tgs_len (l : List Stm) : (tgs l).length ≤ l.length := by
  unfold tgs
  induction l with
  | nil => simp
  | cons s l ih =>
    rw [List.flatMap_cons, List.length_append, List.length_cons]
    have : (tgt s).toList.length ≤ 1 := by cases tgt s <;> simp
    omega
section
variable {P : Program} {w : World} {K : PySem.W.Frag} {mg : Str → Option Value} {base : Heap}
abbrev s_law_locals : Stmt := top 47
abbrev N_law_locals : List Str := ["_law_shared", "_law_procedure_here", "_law_found", "_law_statement_here", "_law_rows_here", "_law_name"]
theorem sc_law_locals : FnScope N_law_locals ["_law_shared", "_law_procedure_here"] (defScope s_law_locals) := ⟨rfl, rfl, rfl, by decide +kernel, rfl, by decide +kernel, by decide +kernel⟩
theorem ok_law_locals (T : Bl mg) (D : Df K mg "_law_locals" s_law_locals ["_law_shared", "_law_procedure_here"]) (G_law_all : Kn P w K mg base 5 "_law_all" ["_law_block_here"] (spAll K 3)) (G_law_targets : Kn P w K mg base 1 "_law_targets" ["_law_statement_here"] (spLtg K)) :
    Kn P w K mg base 6 "_law_locals" ["_law_shared", "_law_procedure_here"] (spLloc K) := by
  refine D.ok sc_law_locals (fun vs H Q E h => ?_) (fun f cdv A outer s H vs Q E hr h => ?_)
  · obtain ⟨v, x, gl, p, rfl, _⟩ := h
    rfl
  obtain ⟨v, x, gl, p, rfl, hv, hx, wf, q⟩ := h
  refine ⟨_, (pss_cons (ps_set (i := 2) sc_law_locals.nd rfl (by first | exact Or.inl rfl | exact Or.inr rfl) (pe_callTy call_list_of (by rfl) T.list (by decide +kernel) (pa_cons (pe_ix ix_tup (pv 1) pe_int (fun _ _ => rfl)) pa_nil)))
    (pss_cons (ps_for PassesOwn.never rfl (pi_list (pe_kn G_law_all hr (pa_cons (pe_ix ix_tup (pv 1) pe_int (fun _ _ => rfl)) pa_nil))) (pg_name (i := 3) sc_law_locals.nd rfl (by first | exact Or.inl rfl | exact Or.inr rfl)) (pss_one (ps_set (i := 2) sc_law_locals.nd rfl (by first | exact Or.inl rfl | exact Or.inr rfl) (pe_op op_cat (pv 2) (pe_kn G_law_targets hr (pa_cons (pv 3) pa_nil))))))
    (pss_cons (ps_set (i := 4) sc_law_locals.nd rfl (by first | exact Or.inl rfl | exact Or.inr rfl) (pe_lst pa_nil))
    (pss_cons (ps_for PassesOwn.never rfl (pi_list (pe_callB cr_sortedSA (by rfl) T.sorted (by decide +kernel) (pa_cons (pv 2) pa_nil))) (pg_name (i := 5) sc_law_locals.nd rfl (by first | exact Or.inl rfl | exact Or.inr rfl)) (pss_one (ps_if (PW.pt (pw_and (pt_cmpR op_notIn_seq (pv 5) (pv 4) rfl) (pw_and1 (pt_cmpR op_notIn_seq (pv 5) (pv 0) rfl)))) (pss_one (ps_expr (pe_bm PySem.F.plainAttrs_list PySem.F.slot_list_append PySem.F.type_list_append mt_append (pv 4) (pa_cons (pv 5) pa_nil)))) pss_nil)))
    (pss_one (ps_ret (pv 4))))))), ?_⟩
  obtain ⟨ag, wg, rfl, hag, rg⟩ := hv.tup_inv
  rw [rg.strs_eq] at hag
  obtain ⟨pa, v1, v2, v3, rfl, hpa, s1, s2, s3⟩ := hx.t3
  obtain ⟨pp, wp, rfl, hpp, rp⟩ := s2.tup_inv
  rw [rp.strs_eq] at hpp
  have hcnt := wf.cnt
  have hpl := wf.plen
  refine ⟨_, rfl, _, _, _, _, rfl, rfl, hpa, rfl, pp, _, rfl, .inr hpp, fun o ho => ?_⟩
  have k0 : Kp none H (upd H o (.lst (p.ps.map V.str))) := (Kp.refl _).new ho
  refine ⟨_, rfl, _, _, _, _, rfl, rfl, k0.tle.seqT hpa, rfl, v3, p.body, rfl, s3.mono k0.tle, wf.dep, by omega, fun bp H1 k1 n1 ls1 => ?_⟩
  obtain ⟨bv, hbv, rbv⟩ := ls1
  refine ⟨bp, rfl, ⟨_, .inl (.inl hbv)⟩, for_dl encS (allL p.body) rbv
    (fun l σ' H' => ∃ o', (∃ y, σ' = [some (.ref ag), some (.ref pa), some (.ref o'), y, none, none]) ∧ Kp none H H' ∧ TLe H1 H' ∧ H' bp = some (.lst bv) ∧ H o' = none ∧ H' o' = some (.lst ((p.ps ++ tgs l).map V.str)))
    ⟨o, ⟨_, rfl⟩, k0.trans k1, TLe.refl _, hbv, ho, by simpa [tgs] using k1.of (show (upd H o (.lst (p.ps.map V.str))) o = _ from upd_same)⟩ (fun l σ' H' z => by obtain ⟨_, _, _, t, h, _⟩ := z; exact ⟨t, .inl (.inl h)⟩) ?_ ?_⟩
  · rintro pre z post y σ' H' e ry ⟨o1, ⟨z1, rfl⟩, k2, t2, hb2, n2, h2⟩
    have hl1 := tgs_len pre
    have hl2 : pre.length < (allL p.body).length := by rw [e]; simp
    have hl3 : (tgt z).toList.length ≤ 1 := by cases tgt z <;> simp
    refine ⟨_, rfl, _, rfl, y, z, rfl, ry, fun o2 H3 k3 n3 h3 => ?_⟩
    refine ⟨o1, o2, _, _, rfl, rfl, k3.of h2, h3, small_le (by simp only [List.length_map, List.length_append]; omega), fun o3 n4 => ?_⟩
    have k4 := k3.new (o := .lst ((p.ps ++ tgs pre).map V.str ++ (tgt z).toList.map V.str)) n4
    refine ⟨o3, ⟨_, rfl⟩, k2.trans k4, t2.trans k4.tle, k4.of hb2, (k2.trans k3).dom _ n4, ?_⟩
    rw [upd_same]
    simp [tgs]
  rintro σ' H2 ⟨o1, ⟨z1, rfl⟩, k2, t2, hb2, n2, h2⟩
  refine ⟨Nat.zero_le _, fun r hrn => ?_⟩
  have k3 : Kp none H2 (upd H2 r (.lst [])) := (Kp.refl _).new hrn
  have rH : H r = none := k2.dom _ hrn
  have hl1 := tgs_len (allL p.body)
  refine ⟨_, rfl, o1, p.ps ++ tgs (allL p.body), rfl, .inl (.inl (k3.of h2)), fun ys so pm ss hso => ?_⟩
  have k4 := k3.new (o := .lst (ys.map V.str)) hso
  have hs4 : (upd (upd H2 r (.lst [])) so (.lst (ys.map V.str))) so = some (.lst (ys.map V.str)) := upd_same
  have hr4 := ((Kp.refl (m := none) _).new (o := .lst (ys.map V.str)) hso).of (show (upd H2 r (.lst [])) r = _ from upd_same)
  have nsr : so ≠ r := fun e => by rw [e, upd_same] at hso; cases hso
  have hag4 := (k2.trans k4).tle.seqT hag
  have ly : ys.length ≤ 1000 := by rw [pm.length_eq, List.length_append]; omega
  have hpw := sortedS_pw ss
  generalize upd (upd H2 r (.lst [])) so (.lst (ys.map V.str)) = H4 at k4 hs4 hr4 hag4 ⊢
  refine ⟨so, rfl, ⟨_, .inl (.inl hs4)⟩, for_dl PyData.str ys (RpA.strs ys)
    (fun l σ' H' => ∃ zs : List Str, (∃ y, σ' = [some (.ref ag), some (.ref pa), some (.ref o1), z1, some (.ref r), y]) ∧ Kp none H H' ∧ TLe H4 H' ∧ H' so = some (.lst (ys.map V.str)) ∧ H' r = some (.lst (zs.map V.str)) ∧ Asc zs ∧ zs.length ≤ l.length ∧ ∀ x, x ∈ zs ↔ x ∈ l ∧ x ∉ gl)
    ⟨[], ⟨_, rfl⟩, k2.trans k4, TLe.refl _, hs4, hr4, .nil, Nat.le_refl _, by simp⟩ (fun l σ' H' z => by obtain ⟨_, _, _, t, h, _⟩ := z; exact ⟨t, .inl (.inl h)⟩) ?_ ?_⟩
  · rintro pre x post y σ' H' e ry ⟨zs, ⟨z2, rfl⟩, k5, t5, hs5, hr5, az, lz, mz⟩
    rw [ry.str_inv]
    have lpre : pre.length < ys.length := by rw [e]; simp
    refine ⟨_, rfl, _, rfl, r, _, rfl, .inl (.inl (.inl hr5)), rfl, flat_strs' zs, _, rfl, ?_⟩
    rw [inV_strs]
    have skip : (x ∈ zs ∨ x ∈ gl) → ∀ z, z ∈ zs ↔ z ∈ pre ++ [x] ∧ z ∉ gl := fun h z => by
      rw [List.mem_append, List.mem_singleton]
      constructor
      · intro hz
        exact ⟨.inl ((mz z).mp hz).1, ((mz z).mp hz).2⟩
      · rintro ⟨hz | hz, hg⟩
        · exact (mz z).mpr ⟨hz, hg⟩
        · subst hz
          rcases h with h | h
          · exact h
          · exact absurd h hg
    by_cases hm : x ∈ zs
    · simp only [hm, decide_true, if_true, Bool.not_true, Bool.false_eq_true, if_false]
      exact ⟨zs, ⟨_, rfl⟩, k5, t5, hs5, hr5, az, by rw [List.length_append]; omega, skip (.inl hm)⟩
    · simp only [hm, decide_false, if_true, Bool.not_false]
      refine ⟨_, rfl, _, rfl, ag, _, rfl, .inr (t5.seqT hag4), rfl, flat_strs' gl, _, rfl, ?_⟩
      rw [inV_strs]
      by_cases hg : x ∈ gl
      · simp only [hg, decide_true, if_true, Bool.not_true, Bool.false_eq_true, if_false]
        exact ⟨zs, ⟨_, rfl⟩, k5, t5, hs5, hr5, az, by rw [List.length_append]; omega, skip (.inr hg)⟩
      · simp only [hg, decide_false, if_true, Bool.not_false]
        refine ⟨_, rfl, .inl ⟨rfl, _, .inl (.inl hr5)⟩, _, rfl, r, _, _, rfl, rfl, hr5, small_lt (by rw [List.length_map]; omega), ?_⟩
        refine ⟨zs ++ [x], ⟨_, rfl⟩, k5.put rH, t5.trans (TLe.put hr5), by rw [upd_ne nsr]; exact hs5, by rw [upd_same]; simp, ?_, by simp only [List.length_append, List.length_cons, List.length_nil]; omega, fun z => ?_⟩
        · refine List.pairwise_append.mpr ⟨az, by simp, fun u hu v hv => ?_⟩
          rw [List.mem_singleton.mp hv]
          have hup := ((mz u).mp hu).1
          rw [e] at hpw
          exact ltT_of ((List.pairwise_append.mp hpw).2.2 u hup x List.mem_cons_self) fun e2 => hm (e2 ▸ hu)
        · rw [List.mem_append, List.mem_append, List.mem_singleton]
          constructor
          · rintro (hz | hz)
            · exact ⟨.inl ((mz z).mp hz).1, ((mz z).mp hz).2⟩
            · subst hz; exact ⟨.inr rfl, hg⟩
          · rintro ⟨hz | hz, h2⟩
            · exact .inl ((mz z).mpr ⟨hz, h2⟩)
            · exact .inr hz
  · rintro σ' H' ⟨zs, ⟨z2, rfl⟩, k5, t5, hs5, hr5, az, lz, mz⟩
    have ez : zs = locs gl p.ps p.body := locs_eq az fun x => by
      rw [mz x, pm.mem_iff, List.mem_append, tgs_mem, setIn_mem]
      constructor
      · rintro ⟨h | h, hg⟩
        · exact .inr h
        · exact .inl ⟨h, hg⟩
      · rintro (⟨h, hg⟩ | h)
        · exact ⟨.inr h, hg⟩
        · exact ⟨.inl h, wf.psgl x h⟩
    subst ez
    exact ⟨_, rfl, q _ _ k5 rH hr5⟩
end
end Cl

/-! Carryclaim, the law's own defs: _law_rows. -/
namespace Cl
open PySem PySem.Spec PyProof.Rows L2
/-- tuples whose first is a text -/
inductive PlA (H : Hp) : List V → List Str → Prop
  | nil : PlA H [] []
  | cons {c : Addr} {vs rest : List V} {x : Str} {xs : List Str} : H c = some (.tup (.str x :: rest)) → PlA H vs xs → PlA H (.ref c :: vs) (x :: xs)
theorem PlA.mono {H H' : Hp} (e : TLe H H') : ∀ {vs : List V} {xs : List Str}, PlA H vs xs → PlA H' vs xs
  | _, _, .nil => .nil
  | _, _, .cons h r => .cons ((e _).1 _ h) (r.mono e)
theorem PlA.app {H : Hp} : ∀ {vs ws : List V} {xs ys : List Str}, PlA H vs xs → PlA H ws ys → PlA H (vs ++ ws) (xs ++ ys)
  | _, _, _, _, .nil, s => s
  | _, _, _, _, .cons h r, s => .cons h (r.app s)
theorem PlA.len {H : Hp} : ∀ {vs : List V} {xs : List Str}, PlA H vs xs → vs.length = xs.length
  | _, _, .nil => rfl
  | _, _, .cons _ r => congrArg (· + 1) r.len
theorem PlA.get {H : Hp} : ∀ {vs : List V} {xs : List Str} {i : Nat} {x : Str}, PlA H vs xs → xs[i]? = some x → ∃ b rest, vs[i]? = some (.ref b) ∧ H b = some (.tup (.str x :: rest))
  | _, _, _, _, .nil, e => by simp at e
  | _, _, 0, _, .cons h _, e => by simp at e; subst e; exact ⟨_, _, rfl, h⟩
  | _, _, i + 1, x, .cons _ t, e => by
    obtain ⟨b, rest, h1, h2⟩ := PlA.get (i := i) (x := x) t (by simpa using e)
    exact ⟨b, rest, by simpa using h1, h2⟩
def RwL (H : Hp) (p : Addr) (xs : List Str) : Prop := ∃ vs, H p = some (.lst vs) ∧ PlA H vs xs
def ptxs (l : List (List Nat)) : List Str := l.map pathText
def spLrows (K : PySem.W.Frag) (n : Nat) : Sp := fun vs H Q _ => ∃ (v u : V) (bh : Str) (b : List Stm) (p : List Nat), vs = [v, u, .str bh] ∧ Rp K H v (encB b) ∧ Rp K H u (encPath p) ∧ depL b ≤ n ∧ p.length + 2 * depL b ≤ 90 ∧ (∀ n ∈ p, n < 10000) ∧ (allL b).length ≤ 1000 ∧
  ∀ a H', Kp none H H' → H a = none → RwL H' a (ptxs (pathL p 0 b)) → Q (.ref a) H'
theorem pathBs_len (p : List Nat) : ∀ (l : List (List Stm)) (j : Nat), (pathBs p j l).length = (l.flatMap allL).length
  | [], _ => by simp [pathBs]
  | z :: zs, j => by simp [pathBs, pathBs_len p zs, pathL_len]
section
variable {P : Program} {w : World} {K : PySem.W.Frag} {mg : Str → Option Value} {base : Heap}
abbrev s_law_rows : Stmt := top 49
abbrev N_law_rows : List Str := ["_law_block_here", "_law_start", "_law_behind", "_law_rows_here", "_law_k", "_law_path", "_law_place_here", "_law_follows", "_law_back", "_law_heads", "_law_inner", "_law_blocks_here", "_law_index"]
theorem sc_law_rows : FnScope N_law_rows ["_law_block_here", "_law_start", "_law_behind"] (defScope s_law_rows) := ⟨rfl, rfl, rfl, by decide +kernel, rfl, by decide +kernel, by decide +kernel⟩
theorem ok_lrows_step {n : Nat} (T : Bl mg) (D : Df K mg "_law_rows" s_law_rows ["_law_block_here", "_law_start", "_law_behind"]) (G_law_blocks : Kn P w K mg base 1 "_law_blocks" ["_law_statement_here"] (spLbs K)) (G_law_place : Kn P w K mg base 1 "_law_place" ["_law_path"] (spPathText K))
    (G_law_rows : Kn P w K mg base (n + 1) "_law_rows" ["_law_block_here", "_law_start", "_law_behind"] (fun vs H Q E => ∃ j, j < n ∧ spLrows K j vs H Q E)) : Kn P w K mg base (n + 2) "_law_rows" ["_law_block_here", "_law_start", "_law_behind"] (spLrows K n) := by
  refine D.ok sc_law_rows (fun vs H Q E h => ?_) (fun f cdv A outer s H vs Q E hr h => ?_)
  · obtain ⟨v, u, bh, b, p, rfl, _⟩ := h
    rfl
  obtain ⟨v, u, bh, b, p, rfl, hv, hu, hdep, hpl, hpn, hlen, q⟩ := h
  refine ⟨_, (pss_cons (ps_set (i := 3) sc_law_rows.nd rfl (by first | exact Or.inl rfl | exact Or.inr rfl) (pe_lst pa_nil))
    (pss_cons (ps_for PassesOwn.never rfl (pi_range1 (by rfl) T.range (pa_cons (pe_callB call_len_seq (by rfl) T.len (by decide +kernel) (pa_cons (pv 0) pa_nil)) pa_nil)) (pg_name (i := 4) sc_law_rows.nd rfl (by first | exact Or.inl rfl | exact Or.inr rfl)) (pss_cons (ps_set (i := 5) sc_law_rows.nd rfl (by first | exact Or.inl rfl | exact Or.inr rfl) (pe_op op_catA (pv 1) (pe_tup (pa_cons (pv 4) pa_nil))))
      (pss_cons (ps_set (i := 6) sc_law_rows.nd rfl (by first | exact Or.inl rfl | exact Or.inr rfl) (pe_kn G_law_place hr (pa_cons (pv 5) pa_nil) (by omega)))
      (pss_cons (ps_set (i := 7) sc_law_rows.nd rfl (by first | exact Or.inl rfl | exact Or.inr rfl) (pv 2))
      (pss_cons (ps_if (pt_cmpR op_lt (pe_op op_add (pv 4) pe_int) (pe_callB call_len_seq (by rfl) T.len (by decide +kernel) (pa_cons (pv 0) pa_nil)) (nomark _)) (pss_one (ps_set (i := 7) sc_law_rows.nd rfl (by first | exact Or.inl rfl | exact Or.inr rfl) (pe_kn G_law_place hr (pa_cons (pe_op op_catA (pv 1) (pe_tup (pa_cons (pe_op op_add (pv 4) pe_int) pa_nil))) pa_nil) (by omega)))) pss_nil)
      (pss_cons (ps_set (i := 8) sc_law_rows.nd rfl (by first | exact Or.inl rfl | exact Or.inr rfl) (pv 7))
      (pss_cons (ps_if (pt_cmpR op_eq (pe_ix ix_tup (pe_ix ix_tup (pv 0) (pv 4) (fun _ _ => rfl)) pe_int (fun _ _ => rfl)) pe_str (nomark _)) (pss_one (ps_set (i := 8) sc_law_rows.nd rfl (by first | exact Or.inl rfl | exact Or.inr rfl) (pv 6))) pss_nil)
      (pss_cons (ps_set (i := 9) sc_law_rows.nd rfl (by first | exact Or.inl rfl | exact Or.inr rfl) (pe_lst pa_nil))
      (pss_cons (ps_set (i := 10) sc_law_rows.nd rfl (by first | exact Or.inl rfl | exact Or.inr rfl) (pe_lst pa_nil))
      (pss_cons (ps_set (i := 11) sc_law_rows.nd rfl (by first | exact Or.inl rfl | exact Or.inr rfl) (pe_kn G_law_blocks hr (pa_cons (pe_ix ix_tup (pv 0) (pv 4) (fun _ _ => rfl)) pa_nil) (by omega)))
      (pss_cons (ps_for PassesOwn.never rfl (pi_range1 (by rfl) T.range (pa_cons (pe_callB call_len_seq (by rfl) T.len (by decide +kernel) (pa_cons (pv 11) pa_nil)) pa_nil)) (pg_name (i := 12) sc_law_rows.nd rfl (by first | exact Or.inl rfl | exact Or.inr rfl)) (pss_cons (ps_set (i := 10) sc_law_rows.nd rfl (by first | exact Or.inl rfl | exact Or.inr rfl) (pe_op op_cat (pv 10) (pe_kn G_law_rows hr (pa_cons (pe_ix ix_list (pv 11) (pv 12) (fun _ _ => rfl)) (pa_cons (pe_op op_catA (pv 5) (pe_tup (pa_cons (pv 12) pa_nil))) (pa_cons (pv 8) pa_nil))) (by omega))))
        (pss_one (ps_expr (pe_bm PySem.F.plainAttrs_list PySem.F.slot_list_append PySem.F.type_list_append mt_append (pv 9) (pa_cons (pe_ifExp (pt_cmpR op_gt (pe_callB call_len_seq (by rfl) T.len (by decide +kernel) (pa_cons (pe_ix ix_list (pv 11) (pv 12) (fun _ _ => rfl)) pa_nil)) pe_int (nomark _)) (pe_kn G_law_place hr (pa_cons (pe_op op_catA (pv 5) (pe_tup (pa_cons (pv 12) (pa_cons pe_int pa_nil)))) pa_nil) (by omega)) (pv 8)) pa_nil))))))
      (pss_one (ps_set (i := 3) sc_law_rows.nd rfl (by first | exact Or.inl rfl | exact Or.inr rfl) (pe_op op_cat (pe_op op_cat (pv 3) (pe_lst (pa_cons (pe_tup (pa_cons (pv 6) (pa_cons (pe_ix ix_tup (pv 0) (pv 4) (fun _ _ => rfl)) (pa_cons (pv 7) (pa_cons (pv 9) pa_nil))))) pa_nil))) (pv 10)))))))))))))))
    (pss_one (ps_ret (pv 3))))), ?_⟩
  obtain ⟨a, ws, rfl, hs, r0⟩ := hv.tup_inv
  have hwl := r0.len
  rw [List.length_map] at hwl
  have hbl := allL_len_pos b
  have lt62 : ∀ z : Int, z < 20000000 → z < 2 ^ 62 := fun z h => Int.lt_trans h (by decide)
  have ge62 : ∀ z : Int, 0 ≤ z → -(2 ^ 62) ≤ z := fun z h => Int.le_trans (by decide) h
  refine ⟨Nat.zero_le _, fun o ho => ?_⟩
  have k0 : Kp none H (upd H o (.lst [])) := (Kp.refl _).new ho
  refine ⟨_, rfl, _, _, rfl, .inr (k0.tle.seqT hs), _, rfl, ge62 _ (by omega), lt62 _ (by omega), for_range
    (fun i σ' H' => ∃ o', (∃ y4 y5 y6 y7 y8 y9 y10 y11 y12, σ' = [some (.ref a), some u, some (.str bh), some (.ref o'), y4, y5, y6, y7, y8, y9, y10, y11, y12]) ∧ Kp none H H' ∧ H o' = none ∧ RwL H' o' (ptxs (pathL p 0 (b.take i))))
    ⟨o, ⟨_, _, _, _, _, _, _, _, _, rfl⟩, k0, ho, [], upd_same, by simpa [pathL, ptxs] using PlA.nil⟩ ?_ ?_⟩
  · rintro i σ' H1 hi ⟨o1, ⟨y4, y5, y6, y7, y8, y9, y10, y11, y12, rfl⟩, k1, no1, vs1, ho1, rv1⟩
    have hi2 : i < b.length := by omega
    have e0 : (0 : Int) + ((i : Nat) : Int) = ((i : Nat) : Int) := by omega
    rw [e0]
    have hbi : b[i]? = some b[i] := List.getElem?_eq_getElem hi2
    obtain ⟨eb1, eb2⟩ := take_split hbi
    generalize hx : b[i] = x at hbi eb1 eb2
    have hdb : (b.map encS)[i]? = some (encS x) := by rw [List.getElem?_map, hbi]; rfl
    obtain ⟨y, hy, ry⟩ := r0.get' hdb
    have hxm : x ∈ b := by rw [eb1]; simp
    have hlen1 : (allL (b.take i)).length + (allS x).length ≤ 1000 := by
      rw [eb1, allL_append] at hlen
      simp only [allL, List.length_append] at hlen
      omega
    have hx1 : 1 ≤ (allS x).length := by rw [allS_blks]; simp
    have hdx0 : depS x ≤ depL b := depL_mem hxm
    have hdx : depS x ≤ n := Nat.le_trans hdx0 hdep
    have hvl1 := rv1.len
    rw [ptxs, List.length_map, pathL_len] at hvl1
    -- path
    refine ⟨_, rfl, _, rfl, small_le (by simp), fun t1 ht1 => ?_⟩
    have k2 : Kp none H1 (upd H1 t1 (.tup [.int ((i : Nat) : Int)])) := (Kp.refl _).new ht1
    refine cat_ok (ds := p.map fun (n : Nat) => .int ((n : Nat) : Int)) (es := [.int ((i : Nat) : Int)]) (hu.mono (k1.tle.trans k2.tle)) (Rp.mk ht1 (.cons (.int _) .nil)) (by simp; omega) fun u3 H3 k3 r3 => ?_
    rw [encPath_snoc] at r3
    have pnum : ∀ z ∈ p ++ [i], z < 10000 := fun z hz => by
      rcases List.mem_append.mp hz with hz | hz
      · exact hpn z hz
      · rw [List.mem_singleton.mp hz]; omega
    refine ⟨_, rfl, u3, p ++ [i], rfl, r3, by simp; omega, pnum, fun H4 k4 => ?_⟩
    have r4 := r3.mono k4.tle
    have k14 := (k2.trans k3).trans k4
    refine ⟨_, rfl, ?_⟩
    refine ⟨_, rfl, _, _, rfl, rfl, _, rfl, _, _, rfl, .inr ((k1.trans k14).tle.seqT hs), _, _, rfl, rfl, _, rfl, ?_⟩
    obtain ⟨c, wc, rfl, hc⟩ := ry.tag
    refine ite2 (fun hlt => ?_) (fun _ => ?_)
    refine ⟨_, rfl, _, rfl, _, _, rfl, rfl, small_le (by simp), fun t5 ht5 => ?_⟩
    have k5 : Kp none H4 (upd H4 t5 (.tup [.int (((i : Nat) : Int) + 1)])) := (Kp.refl _).new ht5
    refine cat_ok (ds := p.map fun (n : Nat) => .int ((n : Nat) : Int)) (es := [.int (((i : Nat) : Int) + 1)]) (hu.mono ((k1.trans k14).tle.trans k5.tle)) (Rp.mk ht5 (.cons (.int _) .nil)) (by simp; omega) fun u6 H6 k6 r6 => ?_
    have e6 : p.map (fun (n : Nat) => PyData.int ((n : Nat) : Int)) ++ [.int (((i : Nat) : Int) + 1)] = (p ++ [i + 1]).map fun (n : Nat) => PyData.int ((n : Nat) : Int) := by simp
    rw [e6] at r6
    refine ⟨u6, p ++ [i + 1], rfl, r6, by simp; omega, fun z hz => ?_, fun H7 k7 => ?_⟩
    · rcases List.mem_append.mp hz with hz | hz
      · exact hpn z hz
      · rw [List.mem_singleton.mp hz]; omega
    have kF := k14.trans ((k5.trans k6).trans k7)
    have rP := r4.mono ((k5.trans k6).trans k7).tle
    rotate_left
    have kF := k14
    have rP := r4
    all_goals
      refine ⟨_, rfl, ?_⟩
      refine ⟨_, rfl, _, rfl, _, _, _, _, rfl, rfl, (k1.trans kF).tle.seqT hs, atI_nat (j := i) hy, _, _, _, _, rfl, rfl, (k1.trans kF).tle.seqT hc, at0, rfl, _, rfl, ?_⟩
      refine ite2 (fun _ => ?_) (fun _ => ?_)
      refine ⟨_, rfl, ?_⟩
      all_goals
        refine ⟨Nat.zero_le _, fun hd hhd => ?_⟩
        have m1 := (Kp.refl (m := none) _).new (o := .lst []) hhd
        refine ⟨Nat.zero_le _, fun nn hnn => ?_⟩
        have m2 := (Kp.refl (m := none) _).new (o := .lst []) hnn
        have kM := (kF.trans m1).trans m2
        have hdH : H hd = none := (k1.trans kF).dom _ hhd
        have nnH : H nn = none := ((k1.trans kF).trans m1).dom _ hnn
        have nhn : nn ≠ hd := fun e => by rw [e, upd_same] at hnn; cases hnn
        have noh : o1 ≠ hd := fun e => by rw [← e, kF.of ho1] at hhd; cases hhd
        have non' : o1 ≠ nn := fun e => by rw [← e, m1.of (kF.of ho1)] at hnn; cases hnn
        refine ⟨_, rfl, _, rfl, _, _, _, _, rfl, rfl, (k1.trans kM).tle.seqT hs, atI_nat (j := i) hy, .ref c, x, rfl, ry.mono (k1.trans kM).tle, fun bl H6' k6' n6' ls6 => ?_⟩
        obtain ⟨bv, hbv, rbv⟩ := ls6
        have hb2 := rbv.len
        rw [List.length_map] at hb2
        have hb3 := blks_len x
        have hh6 := k6'.of (m2.of (show (upd _ hd (.lst [])) hd = some (.lst []) from upd_same))
        have hn6 := k6'.of (show (upd _ nn (.lst [])) nn = some (.lst []) from upd_same)
        have ho6 := (kM.trans k6').of ho1
        have nbh : bl ≠ hd := fun e => by rw [e, m2.of (show (upd _ hd (.lst [])) hd = some (.lst []) from upd_same)] at n6'; cases n6'
        have kA := (k1.trans kM).trans k6'
        have rA := rP.mono ((m1.trans m2).trans k6').tle
        refine ⟨_, rfl, _, _, rfl, .inl (.inl (.inl hbv)), _, rfl, ge62 _ (by omega), lt62 _ (by omega), for_range
          (fun j σ' H' => ∃ inn, (∃ (s7 s8 : Str) (y12 : Option V), σ' = [some (.ref a), some u, some (.str bh), some (.ref o1), some (.int ((i : Nat) : Int)), some u3, some (.str (pathText (p ++ [i]))), some (.str s7), some (.str s8), some (.ref hd), some (.ref inn), some (.ref bl), y12]) ∧
            Kp none H H' ∧ TLe H6' H' ∧ H' bl = some (.lst bv) ∧ H' o1 = some (.lst vs1) ∧ H inn = none ∧ inn ≠ hd ∧ (∃ hv, H' hd = some (.lst hv) ∧ hv.length ≤ j) ∧ RwL H' inn (ptxs (pathBs (p ++ [i]) 0 ((blks x).take j))))
          ⟨nn, ⟨_, _, _, rfl⟩, kA, TLe.refl _, hbv, ho6, nnH, nhn, ⟨[], hh6, Nat.le_refl _⟩, [], hn6, by simpa [pathBs, ptxs] using PlA.nil⟩ ?_ ?_⟩
        · rintro j σ4 H7' hj ⟨inn, ⟨s7, s8, z12, rfl⟩, k7', t7', hb7, ho7, ni7, nih, ⟨hv7, hh7, lh7⟩, vi7, hi7, ri7⟩
          have ej : (0 : Int) + ((j : Nat) : Int) = ((j : Nat) : Int) := by omega
          rw [ej]
          have hj2 : j < (blks x).length := by omega
          have hbj : (blks x)[j]? = some (blks x)[j] := List.getElem?_eq_getElem hj2
          obtain ⟨ec1, ec2⟩ := take_split hbj
          generalize hbb : (blks x)[j] = bb at hbj ec1 ec2
          obtain ⟨yb, hyb, rb⟩ := rbv.get' (i := j) (d := encB bb) (by rw [List.getElem?_map, hbj]; rfl)
          have hbm : bb ∈ blks x := by rw [ec1]; simp
          have hdb0 : depL bb < depS x := depS_blk hbm
          have rb7 := rb.mono t7'
          obtain ⟨yc, wc2, rfl, hyc, ryc⟩ := rb7.tup_inv
          have hcnt : (allS x).length = 1 + (((blks x).take j).flatMap allL).length + (allL bb).length + (((blks x).drop (j + 1)).flatMap allL).length := by
            have h5 := congrArg List.length (allS_blks x)
            have h6 := congrArg (fun l => (l.flatMap allL).length) ec1
            simp only [List.length_cons, List.flatMap_append, List.flatMap_cons, List.length_append] at h5 h6
            omega
          have hvi := ri7.len
          rw [ptxs, List.length_map, pathBs_len] at hvi
          refine ⟨_, rfl, _, rfl, _, rfl, _, _, _, _, rfl, rfl, .inl (.inl hb7), atI_nat (j := j) hyb, _, rfl, _, rfl, small_le (by simp), fun t8 ht8 => ?_⟩
          have k8 := (Kp.refl (m := none) H7').new (o := .tup [.int ((j : Nat) : Int)]) ht8
          refine cat_ok (ds := (p ++ [i]).map fun (n : Nat) => .int ((n : Nat) : Int)) (es := [.int ((j : Nat) : Int)]) ((rA.mono t7').mono k8.tle) (Rp.mk ht8 (.cons (.int _) .nil)) (by simp; omega) fun u9 H9 k9 r9 => ?_
          rw [encPath_snoc] at r9
          have k89 := k8.trans k9
          refine ⟨_, rfl, depL bb, Nat.lt_of_lt_of_le hdb0 hdx, .ref yc, u9, s8, bb, p ++ [i] ++ [j], rfl, rb7.mono k89.tle, r9, Nat.le_refl _, by simp; omega, fun z hz => ?_, by omega, fun p10 H10 k10 n10 ls10 => ?_⟩
          · rcases List.mem_append.mp hz with hz | hz
            · exact pnum z hz
            · rw [List.mem_singleton.mp hz]; omega
          obtain ⟨vs10, h10, rv10⟩ := ls10
          have hv10 := rv10.len
          rw [ptxs, List.length_map, pathL_len] at hv10
          have k810 := k89.trans k10
          refine ⟨inn, p10, _, _, rfl, rfl, k810.of hi7, h10, small_le (by omega), fun p11 n11 => ?_⟩
          have k11 := k810.new (o := .lst (vi7 ++ vs10)) n11
          have hh11 := k11.of hh7
          have nph : p11 ≠ hd := fun e => by rw [e, k810.of hh7] at n11; cases n11
          have p11H : H p11 = none := (k7'.trans k810).dom _ n11
          have h11 : (upd H10 p11 (.lst (vi7 ++ vs10))) p11 = some (.lst (vi7 ++ vs10)) := upd_same
          have hb11 := k11.of hb7
          refine ⟨_, rfl, .inl ⟨rfl, _, .inl (.inl hh11)⟩, ?_⟩
          refine ⟨_, rfl, _, rfl, _, _, _, _, rfl, rfl, .inl (.inl hb11), atI_nat (j := j) hyb, _, _, rfl, .inr (k11.tle.seqT hyc), _, _, rfl, rfl, _, rfl, ?_⟩
          have RI := (ri7.mono k11.tle).app (rv10.mono (TLe.new (o := .lst (vi7 ++ vs10)) n11))
          have eRI : ptxs (pathBs (p ++ [i]) 0 ((blks x).take j)) ++ ptxs (pathL (p ++ [i] ++ [j]) 0 bb) = ptxs (pathBs (p ++ [i]) 0 ((blks x).take (j + 1))) := by
            rw [ec2, pathBs_append]
            simp [ptxs, pathBs, take_len (pre := []) (post := []) hbj]
          rw [eRI] at RI
          refine ite2 (fun _ => ?_) (fun _ => ?_)
          refine ⟨_, rfl, _, rfl, small_le (by simp), fun t12 ht12 => ?_⟩
          have k12 := (Kp.refl (m := none) _).new (o := .tup [.int ((j : Nat) : Int), .int 0]) ht12
          refine cat_ok (ds := (p ++ [i]).map fun (n : Nat) => .int ((n : Nat) : Int)) (es := [.int ((j : Nat) : Int), .int ((0 : Nat) : Int)]) (((rA.mono t7').mono k11.tle).mono k12.tle) (Rp.mk ht12 (.cons (.int _) (.cons (.int _) .nil))) (by simp; omega) fun u13 H13 k13 r13 => ?_
          rw [encPath_snoc2] at r13
          refine ⟨u13, p ++ [i] ++ [j] ++ [0], rfl, r13, by simp; omega, fun z hz => ?_, fun H14 k14' => ?_⟩
          · rcases List.mem_append.mp hz with hz | hz
            · rcases List.mem_append.mp hz with hz | hz
              · exact pnum z hz
              · rw [List.mem_singleton.mp hz]; omega
            · rw [List.mem_singleton.mp hz]; omega
          have kX := (k12.trans k13).trans k14'
          rotate_left
          have kX := Kp.refl (m := none) (upd H10 p11 (.lst (vi7 ++ vs10)))
          refine ⟨_, rfl, ?_⟩
          all_goals
            have hhX := kX.of hh11
            refine ⟨hd, hv7, _, rfl, rfl, hhX, small_lt (by omega), ?_⟩
            have tX := fun v : V => (k11.trans kX).tle.trans (TLe.put (o := .lst (hv7 ++ [v])) hhX)
            refine ⟨p11, ⟨_, _, _, rfl⟩, ((k7'.trans k11).trans kX).put hdH, t7'.trans (tX _), by rw [upd_ne nbh]; exact kX.of hb11, by rw [upd_ne noh]; exact kX.of (k11.of ho7), p11H, nph, ⟨_, upd_same, by simp only [List.length_append, List.length_cons, List.length_nil]; omega⟩, vi7 ++ vs10, by rw [upd_ne nph]; exact kX.of h11, (RI.mono kX.tle).mono (TLe.put hhX)⟩
        · rintro σ4 H7' ⟨inn, ⟨s7, s8, z12, rfl⟩, k7', t7', hb7, ho7, ni7, nih, ⟨hv7, hh7, lh7⟩, vi7, hi7, ri7⟩
          have eT : (blks x).take (((bv.length : Nat) : Int)).toNat = blks x := by rw [Int.toNat_natCast, hb2, List.take_length]
          rw [eT] at ri7
          have hvi := ri7.len
          rw [ptxs, List.length_map, pathBs_len] at hvi
          have hcnt := congrArg List.length (allS_blks x)
          rw [List.length_cons] at hcnt
          refine ⟨_, rfl, _, rfl, _, rfl, _, rfl, _, _, _, _, rfl, rfl, k7'.tle.seqT hs, atI_nat (j := i) hy, _, rfl, _, rfl, small_le (by simp), fun t20 h20 => ⟨small_le (by simp), fun l21 h21 => ?_⟩⟩
          have k20 := ((Kp.refl (m := none) H7').new (o := .tup [.str (pathText (p ++ [i])), .ref c, .str s7, .ref hd]) h20).new (o := .lst [.ref t20]) h21
          have R20 : PlA (upd H7' t20 (.tup [.str (pathText (p ++ [i])), .ref c, .str s7, .ref hd])) [.ref t20] [pathText (p ++ [i])] := .cons upd_same .nil
          refine ⟨o1, l21, _, _, rfl, rfl, k20.of ho7, upd_same, small_le (by simp only [List.length_cons, List.length_nil]; omega), fun p22 n22 => ?_⟩
          have k22 := k20.new (o := .lst (vs1 ++ [.ref t20])) n22
          refine ⟨_, rfl, p22, inn, _, _, rfl, rfl, upd_same, k22.of hi7, small_le (by simp only [List.length_append, List.length_cons, List.length_nil]; omega), fun p23 n23 => ?_⟩
          have k23 := k22.new (o := .lst (vs1 ++ [.ref t20] ++ vi7)) n23
          have T23 := ((TLe.new (o := .lst [.ref t20]) h21).trans (TLe.new (o := .lst (vs1 ++ [.ref t20])) n22)).trans (TLe.new (o := .lst (vs1 ++ [.ref t20] ++ vi7)) n23)
          have T17 : TLe H1 H7' := ((kM.trans k6').tle).trans t7'
          have RR := ((rv1.mono (T17.trans k23.tle)).app (R20.mono T23)).app (ri7.mono k23.tle)
          have eRR : ptxs (pathL p 0 (b.take i)) ++ [pathText (p ++ [i])] ++ ptxs (pathBs (p ++ [i]) 0 (blks x)) = ptxs (pathL p 0 (b.take (i + 1))) := by
            rw [eb2, pathL_append]
            simp [ptxs, pathL, pathS_blks, take_len (pre := []) (post := []) hbi]
          rw [eRR] at RR
          exact ⟨p23, ⟨_, _, _, _, _, _, _, _, _, rfl⟩, k7'.trans k23, (k7'.trans k22).dom _ n23, _, upd_same, RR⟩
  · rintro σ' H1 ⟨o1, ⟨y4, y5, y6, y7, y8, y9, y10, y11, y12, rfl⟩, k1, no1, l1⟩
    have e : b.take (((ws.length : Nat) : Int)).toNat = b := by
      rw [Int.toNat_natCast, hwl, List.take_length]
    rw [e] at l1
    exact ⟨_, rfl, q _ _ k1 no1 l1⟩
end
end Cl

/-! Carryclaim, the law's own defs: _law_range, _law_range_text. -/
namespace Cl
open PySem PySem.Spec PyProof.Rows L2
theorem pick2 (x y : Int) (b : Bool) : atI [V.int x, .int y] (if b then 1 else 0) = some (.int (if b then y else x)) := by cases b <;> rfl
def spLrg (K : PySem.W.Frag) (ns : List Int) : Sp := fun vs H Q _ => ∃ (st sc : Addr) (b : Bool), vs = [.ref st, .ref sc, .bl b] ∧ Gn K ns st sc H ∧ ∀ u r H', Kp (some st) H H' → Gn K ns st sc H' → Rp K H' u (encRg r) → RgOk r → Q u H'
def lrgTx (r : Rg) : Str := if r.st = 0 then iTx r.lo else ((iTx r.lo ++ ("..":Str)) ++ iTx r.hi) ++ ("/":Str) ++ iTx r.st
theorem lrgTx_eq (r : Rg) : lrgTx r = rgTx r := by
  unfold lrgTx rgTx
  split
  · rfl
  · refine TL.ext_tl ?_
    simp only [TL.tl_append, tl_empty, List.nil_append]
theorem rgok_mk {low s c : Int} (h1 : -10000 ≤ low ∧ low ≤ 10000) (hs : 1 ≤ s ∧ s ≤ 400) (hc : 1 ≤ c) (hm : c ≤ (10000 - low) / s) : RgOk ⟨low, low + s * c, s⟩ := by
  have e1 : s * c ≤ s * ((10000 - low) / s) := Int.mul_le_mul_of_nonneg_left hm (by omega)
  have e2 : s * ((10000 - low) / s) ≤ 10000 - low := Int.mul_ediv_self_le (by omega)
  have e3 : 0 < s * c := Int.mul_pos (by omega) (by omega)
  refine ⟨h1.1, h1.2, .inr ⟨?_, ?_, hs.1, ?_⟩⟩
  · show low < low + s * c
    omega
  · show low + s * c ≤ 10000
    omega
  · show (low + s * c - low) % s = 0
    rw [show low + s * c - low = s * c by omega]
    exact Int.mul_emod_right s c
theorem min_le (i j : Int) : (if j < i then j else i) ≤ i := by split <;> omega
section
variable {P : Program} {w : World} {K : PySem.W.Frag} {mg : Str → Option Value} {base : Heap} {ns : List Int}
abbrev s_law_range : Stmt := top 50
abbrev N_law_range : List Str := ["_law_state", "_law_script", "_law_wide", "_law_low", "_law_choice", "_law_step", "_law_most", "_law_count"]
theorem sc_law_range : FnScope N_law_range ["_law_state", "_law_script", "_law_wide"] (defScope s_law_range) := ⟨rfl, rfl, rfl, by decide +kernel, rfl, by decide +kernel, by decide +kernel⟩
theorem ok_law_range (T : Bl mg) (D : Df K mg "_law_range" s_law_range ["_law_state", "_law_script", "_law_wide"]) (G_law_next : Anext P w K mg base ns) : Kn P w K mg base 2 "_law_range" ["_law_state", "_law_script", "_law_wide"] (spLrg K ns) := by
  refine D.ok sc_law_range (fun vs H Q E h => ?_) (fun f cdv A outer s H vs Q E hr h => ?_)
  · obtain ⟨st, sc, b, rfl, _⟩ := h
    rfl
  obtain ⟨st, sc, b, rfl, G, q⟩ := h
  refine ⟨_, (pss_cons (ps_set (i := 3) sc_law_range.nd rfl (by first | exact Or.inl rfl | exact Or.inr rfl) (pe_op op_sub (pe_kn G_law_next hr (pa_cons (pv 0) (pa_cons (pv 1) (pa_cons (pe_ix ix_list (pe_lst (pa_cons pe_int (pa_cons pe_int pa_nil))) (pe_callTy call_int1 (by rfl) T.int (by decide +kernel) (pa_cons (pv 2) pa_nil)) (fun _ _ => rfl)) pa_nil)))) (pe_ix ix_list (pe_lst (pa_cons pe_int (pa_cons pe_int pa_nil))) (pe_callTy call_int1 (by rfl) T.int (by decide +kernel) (pa_cons (pv 2) pa_nil)) (fun _ _ => rfl))))
    (pss_cons (ps_set (i := 4) sc_law_range.nd rfl (by first | exact Or.inl rfl | exact Or.inr rfl) (pe_kn G_law_next hr (pa_cons (pv 0) (pa_cons (pv 1) (pa_cons pe_int pa_nil)))))
    (pss_cons (ps_if (pt_cmpR op_eq (pv 4) pe_int (nomark _)) (pss_one (ps_ret (pe_tup (pa_cons (pv 3) (pa_cons (pv 3) (pa_cons pe_int pa_nil)))))) pss_nil)
    (pss_cons (ps_set (i := 5) sc_law_range.nd rfl (by first | exact Or.inl rfl | exact Or.inr rfl) (pe_op op_add pe_int (pe_kn G_law_next hr (pa_cons (pv 0) (pa_cons (pv 1) (pa_cons (pe_ix ix_list (pe_lst (pa_cons pe_int (pa_cons pe_int pa_nil))) (pe_callTy call_int1 (by rfl) T.int (by decide +kernel) (pa_cons (pv 2) pa_nil)) (fun _ _ => rfl)) pa_nil))))))
    (pss_cons (ps_if (pt_cmpR op_eq (pv 4) pe_int (nomark _)) (pss_one (ps_set (i := 5) sc_law_range.nd rfl (by first | exact Or.inl rfl | exact Or.inr rfl) pe_int)) pss_nil)
    (pss_cons (ps_set (i := 6) sc_law_range.nd rfl (by first | exact Or.inl rfl | exact Or.inr rfl) (pe_op op_fdivW (pe_op op_sub pe_int (pv 3)) (pv 5)))
    (pss_cons (ps_set (i := 7) sc_law_range.nd rfl (by first | exact Or.inl rfl | exact Or.inr rfl) (pe_callB (call_min2 rfl) (by rfl) T.min (by decide +kernel) (pa_cons (pv 6) (pa_cons (pe_op op_add pe_int (pe_kn G_law_next hr (pa_cons (pv 0) (pa_cons (pv 1) (pa_cons (pe_ix ix_list (pe_lst (pa_cons pe_int (pa_cons pe_int pa_nil))) (pe_callTy call_int1 (by rfl) T.int (by decide +kernel) (pa_cons (pv 2) pa_nil)) (fun _ _ => rfl)) pa_nil))))) pa_nil))))
    (pss_cons (ps_if (pt_cmpR op_lt (pv 7) pe_int (nomark _)) (pss_one (ps_ret (pe_tup (pa_cons (pv 3) (pa_cons (pv 3) (pa_cons pe_int pa_nil)))))) pss_nil)
    (pss_one (ps_ret (pe_tup (pa_cons (pv 3) (pa_cons (pe_op op_add (pv 3) (pe_op op_mul (pv 5) (pv 7))) (pa_cons (pv 5) pa_nil)))))))))))))), ?_⟩
  refine ⟨_, rfl, _, rfl, small_le (by simp), fun l1 h1 => ?_⟩
  have k1 := (Kp.refl (m := none) H).new (o := .lst [.int 25, .int 20001]) h1
  refine ⟨_, rfl, .inr ⟨b, rfl, _, _, _, _, rfl, rfl, .inl (.inl upd_same), pick2 25 20001 b, st, sc, _, rfl, by cases b <;> decide, by cases b <;> decide, G.keep k1, fun r2 H2 k2 G2 a1 a2 => ?_⟩⟩
  refine ⟨small_le (by simp), fun l3 h3 => ?_⟩
  have k3 := (Kp.refl (m := none) H2).new (o := .lst [.int 12, .int 10000]) h3
  refine ⟨_, rfl, .inr ⟨b, rfl, _, _, _, _, rfl, rfl, .inl (.inl upd_same), pick2 12 10000 b, _, _, rfl, rfl, ?_⟩⟩
  have hlow : -10000 ≤ r2 - (if b then 10000 else 12) ∧ r2 - (if b then 10000 else 12) ≤ 10000 := by
    cases b
    · simp at a2 ⊢; omega
    · simp at a2 ⊢; omega
  obtain ⟨low, hle, hlow⟩ : ∃ low, (fun i j : Int => V.int (i - j)) r2 (if b = true then 10000 else 12) = V.int low ∧ -10000 ≤ low ∧ low ≤ 10000 := ⟨_, rfl, hlow⟩
  rw [hle]
  have kA := k1.up.trans (k2.trans k3.up)
  have zero : ∀ u H', Rp K H' u (encRg ⟨low, low, 0⟩) → Kp (some st) H H' → Gn K ns st sc H' → Q u H' := fun u H' r k g => q u ⟨low, low, 0⟩ H' k g r ⟨hlow.1, hlow.2, .inl ⟨rfl, rfl⟩⟩
  refine ⟨_, rfl, _, rfl, st, sc, _, rfl, by decide, by decide, G2.keep k3, fun r4 H4 k4 G4 c1 c2 => ?_⟩
  refine ⟨_, rfl, rfl, _, rfl, ?_⟩
  refine ite2 (fun _ => ?_) (fun _ => ?_)
  · refine ⟨_, rfl, _, rfl, small_le (by simp), fun t ht => ?_⟩
    exact zero _ _ (Rp.mk ht (.cons (.int _) (.cons (.int _) (.cons (.int _) .nil)))) ((kA.trans k4).new ht) (G4.keep ((Kp.refl _).new ht))
  refine ⟨_, rfl, _, rfl, small_le (by simp), fun l5 h5 => ?_⟩
  have k5 := (Kp.refl (m := none) H4).new (o := .lst [.int 7, .int 400]) h5
  refine ⟨_, rfl, .inr ⟨b, rfl, _, _, _, _, rfl, rfl, .inl (.inl upd_same), pick2 7 400 b, st, sc, _, rfl, by cases b <;> decide, by cases b <;> decide, G4.keep k5, fun r6 H6 k6 G6 d1 d2 => ?_⟩⟩
  have kB := kA.trans (k4.trans (k5.up.trans k6))
  have hst : 1 ≤ 1 + r6 ∧ 1 + r6 ≤ 400 := by
    cases b
    · simp at d2; omega
    · simp at d2; omega
  obtain ⟨stp, hse, hst⟩ : ∃ stp, (fun i j : Int => V.int (i + j)) 1 r6 = V.int stp ∧ 1 ≤ stp ∧ stp ≤ 400 := ⟨_, rfl, hst⟩
  refine ⟨_, _, rfl, rfl, ?_⟩
  rw [hse]
  refine ⟨_, rfl, rfl, _, rfl, ?_⟩
  refine ite2 (fun _ => ?_) (fun _ => ?_)
  have hst' : (1:Int) ≤ 1 ∧ (1:Int) ≤ 400 := by decide
  rotate_left
  have hst' := hst
  all_goals
    refine ⟨_, rfl, _, _, rfl, rfl, _, rfl, _, _, rfl, rfl, ⟨Int.lt_of_lt_of_le (by decide) hst'.1, Nat.lt_trans (log_int (by have := hst'.2; have := hst'.1; omega)) (by decide)⟩, ?_⟩
    refine ⟨_, rfl, _, rfl, _, rfl, small_le (by simp), fun l7 h7 => ?_⟩
    have k7 := (Kp.refl (m := none) H6).new (o := .lst [.int 9, .int 6000]) h7
    refine ⟨_, rfl, .inr ⟨b, rfl, _, _, _, _, rfl, rfl, .inl (.inl upd_same), pick2 9 6000 b, st, sc, _, rfl, by cases b <;> decide, by cases b <;> decide, G6.keep k7, fun r8 H8 k8 G8 e1 e2 => ?_⟩⟩
    have kC := kB.trans (k7.up.trans k8)
    refine ⟨_, _, rfl, rfl, _, _, rfl, ?_⟩
    refine ⟨_, rfl, _, _, rfl, rfl, _, rfl, ?_⟩
    refine ite2 (fun _ => ?_) (fun hx => ?_)
    · refine ⟨_, rfl, _, rfl, small_le (by simp), fun t ht => ?_⟩
      exact zero _ _ (Rp.mk ht (.cons (.int _) (.cons (.int _) (.cons (.int _) .nil)))) (kC.new ht) (G8.keep ((Kp.refl _).new ht))
    · refine ⟨_, rfl, _, rfl, _, rfl, _, rfl, _, _, rfl, rfl, .inl ⟨Int.lt_of_lt_of_le (by decide) hst'.1, Int.lt_of_le_of_lt hst'.2 (by decide)⟩, _, _, rfl, rfl, _, rfl, small_le (by simp), fun t ht => ?_⟩
      exact q _ ⟨_, _, _⟩ _ (kC.new ht) (G8.keep ((Kp.refl _).new ht)) (Rp.mk ht (.cons (.int _) (.cons (.int _) (.cons (.int _) .nil)))) (rgok_mk hlow hst' (Int.not_lt.mp fun h => hx (decide_eq_true h)) (min_le _ _))

abbrev s_law_range_text : Stmt := top 54
abbrev N_law_range_text : List Str := ["_law_one"]
theorem sc_law_range_text : FnScope N_law_range_text ["_law_one"] (defScope s_law_range_text) := ⟨rfl, rfl, rfl, by decide +kernel, rfl, by decide +kernel, by decide +kernel⟩
theorem ok_law_range_text (T : Bl mg) (D : Df K mg "_law_range_text" s_law_range_text ["_law_one"]) : Kn P w K mg base 1 "_law_range_text" ["_law_one"] (spRgTx K) := by
  refine D.ok sc_law_range_text (fun vs H Q E h => ?_) (fun f cdv A outer s H vs Q E hr h => ?_)
  · obtain ⟨v, r, rfl, _⟩ := h
    rfl
  obtain ⟨v, r, rfl, hv, ok, q⟩ := h
  refine ⟨_, (pss_cons (ps_if (pt_cmpR op_eq (pe_ix ix_tup (pv 0) pe_int (fun _ _ => rfl)) pe_int (nomark _)) (pss_one (ps_ret (pe_callTy call_str_int (by rfl) T.str (by decide +kernel) (pa_cons (pe_ix ix_tup (pv 0) pe_int (fun _ _ => rfl)) pa_nil)))) pss_nil)
    (pss_one (ps_ret (pe_op op_add_str (pe_op op_add_str (pe_op op_add_str (pe_op op_add_str (pe_callTy call_str_int (by rfl) T.str (by decide +kernel) (pa_cons (pe_ix ix_tup (pv 0) pe_int (fun _ _ => rfl)) pa_nil)) pe_str) (pe_callTy call_str_int (by rfl) T.str (by decide +kernel) (pa_cons (pe_ix ix_tup (pv 0) pe_int (fun _ _ => rfl)) pa_nil))) pe_str) (pe_callTy call_str_int (by rfl) T.str (by decide +kernel) (pa_cons (pe_ix ix_tup (pv 0) pe_int (fun _ _ => rfl)) pa_nil)))))), ?_⟩
  obtain ⟨a, v1, v2, v3, rfl, hs, r1, r2, r3⟩ := hv.t3
  rw [r1.int_inv, r2.int_inv, r3.int_inv] at hs
  have b1 := iTx_len ok.n1
  have b2 := iTx_len ok.n2
  have b3 := iTx_len ok.n3
  have d1 : ("..":Str).length = 2 := by decide +kernel
  have d2 : ("/":Str).length = 1 := by decide +kernel
  have q := q H (Kp.refl _)
  rw [← lrgTx_eq] at q
  unfold lrgTx at q
  refine ⟨_, rfl, _, _, _, _, rfl, rfl, hs, rfl, rfl, _, rfl, ?_⟩
  refine ite2 (fun hx => ?_) (fun hx => ?_)
  · have e : r.st = 0 := by simpa using hx
    rw [if_pos e] at q
    exact ⟨_, rfl, _, _, _, _, rfl, rfl, hs, rfl, _, rfl, log_int ok.n1, q⟩
  · have e : ¬ r.st = 0 := by simpa using hx
    rw [if_neg e] at q
    have z : ∀ n : Nat, n ≤ 100 → n ≤ sizeLine := fun n h => small_le (by omega)
    refine ⟨_, rfl, _, _, _, _, rfl, rfl, hs, rfl, _, rfl, log_int ok.n1, iTx r.lo, _, rfl, rfl, z _ ?_, _, rfl, _, _, _, _, rfl, rfl, hs, rfl, _, rfl, log_int ok.n2, _, iTx r.hi, rfl, rfl, z _ ?_, _, _, rfl, rfl, z _ ?_, _, rfl, _, _, _, _, rfl, rfl, hs, rfl, _, rfl, log_int ok.n3, _, iTx r.st, rfl, rfl, z _ ?_, q⟩
    all_goals first | omega | (simp only [ln_app, ln_empty, d1, d2]; omega)
end
end Cl

/-! Carryclaim, the law's own defs: _law_place_names, _law_wanted. -/
namespace Cl
open PySem PySem.Spec PyProof.Rows L2
section
variable {K : PySem.W.Frag} {a : Addr} {vs : List V} {H H0 : Hp} {Qd : Hp → Prop} {step : V → Hp → (Hp → Prop) → Prop}
/-- a walk along a list -/
theorem loop_l (Pv : Nat → Hp → Prop) (h0 : Pv 0 H0) (ht : ∀ i H', Pv i H' → SqL K H' a vs) (hs : ∀ i y H', vs[i]? = some y → Pv i H' → step y H' (Pv (i + 1))) (hd : ∀ H', Pv vs.length H' → Qd H') :
    ∃ W : Nat → Nat → Hp → Prop, (∃ m, W 0 m H0) ∧ ∀ i m H, W i m H →
      ((Itl K a).stop i H ∧ Qd H) ∨ ((Itl K a).go i H ∧ ∃ Nx : Hp → Prop, (∀ H', Nx H' → ∃ m', m' < m ∧ W (i + 1) m' H') ∧ ∀ x H', (Itl K a).yld i H x H' → step x H' Nx) := by
  refine ⟨fun i m H' => m = vs.length - i ∧ i ≤ vs.length ∧ Pv i H', ⟨vs.length, by simp, Nat.zero_le _, h0⟩, ?_⟩
  rintro i m H' ⟨rfl, hi, p⟩
  have q : SqL K H' a vs := ht _ _ p
  by_cases hlt : i < vs.length
  · have hx : vs[i]? = some vs[i] := List.getElem?_eq_getElem hlt
    refine .inr ⟨⟨vs, vs[i], q, hx⟩, Pv (i + 1), fun H2 p => ⟨vs.length - (i + 1), by omega, rfl, hlt, p⟩, fun x H2 z => ?_⟩
    obtain ⟨rfl, z⟩ := z
    have ex : x = vs[i] := by
      have z := z _ q
      rw [hx] at z
      exact (Option.some.inj z).symm
    subst ex
    exact hs _ _ _ hx p
  · have e : i = vs.length := by omega
    subst e
    exact .inl ⟨⟨vs, q, Nat.le_refl _⟩, hd H' p⟩
end
abbrev Wr := Str × Str × List Str
/-- tuples of a name, a place and a list of names; F the lists' addresses -/
inductive WtA (F : Addr → Prop) (H : Hp) : List V → List Wr → Prop
  | nil : WtA F H [] []
  | cons {c L : Addr} {vs : List V} {n z : Str} {ns : List Str} {xs : List Wr} : H c = some (.tup [.str n, .str z, .ref L]) → F L → H L = some (.lst (ns.map V.str)) → WtA F H vs xs → WtA F H (.ref c :: vs) ((n, z, ns) :: xs)
theorem WtA.mono {F G : Addr → Prop} {H H' : Hp} (t : TLe H H') (h : ∀ b xs, F b → H b = some (.lst xs) → G b ∧ H' b = some (.lst xs)) : ∀ {vs : List V} {xs : List Wr}, WtA F H vs xs → WtA G H' vs xs
  | _, _, .nil => .nil
  | _, _, .cons a b c r => .cons ((t _).1 _ a) (h _ _ b c).1 (h _ _ b c).2 (r.mono t h)
theorem WtA.app {F : Addr → Prop} {H : Hp} : ∀ {vs ws : List V} {xs ys : List Wr}, WtA F H vs xs → WtA F H ws ys → WtA F H (vs ++ ws) (xs ++ ys)
  | _, _, _, _, .nil, s => s
  | _, _, _, _, .cons a b c r, s => .cons a b c (r.app s)
theorem WtA.len {F : Addr → Prop} {H : Hp} : ∀ {vs : List V} {xs : List Wr}, WtA F H vs xs → vs.length = xs.length
  | _, _, .nil => rfl
  | _, _, .cons _ _ _ r => congrArg (· + 1) r.len
theorem WtA.get {F : Addr → Prop} {H : Hp} : ∀ {vs : List V} {xs : List Wr} {i : Nat} {y : V}, WtA F H vs xs → vs[i]? = some y → ∃ x c L, xs[i]? = some x ∧ y = .ref c ∧ H c = some (.tup [.str x.1, .str x.2.1, .ref L]) ∧ F L ∧ H L = some (.lst (x.2.2.map V.str))
  | _, _, _, _, .nil, e => by simp at e
  | _, _, 0, _, .cons a b c _, e => by simp at e; subst e; exact ⟨_, _, _, rfl, rfl, a, b, c⟩
  | _, _, i + 1, y, .cons _ _ _ t, e => by
    obtain ⟨x, c, L, h1, h2⟩ := WtA.get (i := i) (y := y) t (by simpa using e)
    exact ⟨x, c, L, by simpa using h1, h2⟩
def wpl (g : Pg) (p : Pr) : List Wr := (placesL p.body).map fun z => (p.name, z, stNames g p z)
def wrows (g : Pg) (l : List Pr) : List Wr := l.flatMap (wpl g)
theorem wrows_snoc (g : Pg) (l : List Pr) (p : Pr) : wrows g (l ++ [p]) = wrows g l ++ wpl g p := by simp [wrows]
theorem wrows_key (g : Pg) (l : List Pr) : (wrows g l).map (fun x => (x.1, x.2.1)) = prows l := by
  unfold wrows prows wpl
  rw [List.map_flatMap]
  congr 1
  funext p
  rw [List.map_map]
  rfl
def spLpn (K : PySem.W.Frag) : Sp := fun vs H Q _ => ∃ (v x : V) (pl : Str) (g : Pg) (p : Pr), vs = [v, x, .str pl] ∧ Rp K H v (encPg g) ∧ Rp K H x (encPr p) ∧ WfPg g ∧ p ∈ g.prs ∧ ∀ o H', Kp none H H' → H o = none → H' o = some (.lst ((stNames g p pl).map V.str)) → Q (.ref o) H'
def spLwt (K : PySem.W.Frag) : Sp := fun vs H Q _ => ∃ (v : V) (g : Pg), vs = [v] ∧ Rp K H v (encPg g) ∧ WfPg g ∧ ∀ o H' ws, Kp none H H' → H o = none → H' o = some (.lst ws) → WtA (fun b => H b = none) H' ws (wrows g g.prs) → Q (.ref o) H'
section
variable {P : Program} {w : World} {K : PySem.W.Frag} {mg : Str → Option Value} {base : Heap}
theorem ok_lrows (T : Bl mg) (D : Df K mg "_law_rows" s_law_rows ["_law_block_here", "_law_start", "_law_behind"]) (G_law_blocks : Kn P w K mg base 1 "_law_blocks" ["_law_statement_here"] (spLbs K)) (G_law_place : Kn P w K mg base 1 "_law_place" ["_law_path"] (spPathText K)) :
    ∀ n, Kn P w K mg base (n + 2) "_law_rows" ["_law_block_here", "_law_start", "_law_behind"] (spLrows K n) := by
  intro n
  induction n with
  | zero => exact ok_lrows_step (n := 0) T D G_law_blocks G_law_place (D.vac fun vs H Q E h => by obtain ⟨j, hj, _⟩ := h; omega)
  | succ n ih => exact ok_lrows_step (n := n + 1) T D G_law_blocks G_law_place (ih.imp fun vs H Q E h => by
      obtain ⟨j, hj, v, u, bh, b, p, rfl, h1, h2, h3, h4⟩ := h
      exact ⟨v, u, bh, b, p, rfl, h1, h2, by omega, h4⟩)
abbrev s_law_place_names : Stmt := top 51
abbrev N_law_place_names : List Str := ["_law_program_here", "_law_procedure_here", "_law_place_here"]
theorem sc_law_place_names : FnScope N_law_place_names ["_law_program_here", "_law_procedure_here", "_law_place_here"] (defScope s_law_place_names) := ⟨rfl, rfl, rfl, by decide +kernel, rfl, by decide +kernel, by decide +kernel⟩
theorem ok_law_place_names (T : Bl mg) (D : Df K mg "_law_place_names" s_law_place_names ["_law_program_here", "_law_procedure_here", "_law_place_here"]) (G_law_locals : Kn P w K mg base 6 "_law_locals" ["_law_shared", "_law_procedure_here"] (spLloc K)) :
    Kn P w K mg base 7 "_law_place_names" ["_law_program_here", "_law_procedure_here", "_law_place_here"] (spLpn K) := by
  refine D.ok sc_law_place_names (fun vs H Q E h => ?_) (fun f cdv A outer s H vs Q E hr h => ?_)
  · obtain ⟨v, x, pl, g, p, rfl, _⟩ := h
    rfl
  obtain ⟨v, x, pl, g, p, rfl, hv, hx, wf, hp, q⟩ := h
  refine ⟨_, (pss_cons (ps_if (pt_cmpR op_eq (pv 2) pe_str (nomark _)) (pss_one (ps_ret (pe_op op_cat (pe_callTy call_list_of (by rfl) T.list (by decide +kernel) (pa_cons (pe_ix ix_tup (pv 0) pe_int (fun _ _ => rfl)) pa_nil)) (pe_callTy call_list_of (by rfl) T.list (by decide +kernel) (pa_cons (pe_ix ix_tup (pv 1) pe_int (fun _ _ => rfl)) pa_nil))))) pss_nil)
    (pss_cons (ps_if (pt_cmpR op_eq (pv 2) pe_str (nomark _)) (pss_one (ps_ret (pe_op op_cat (pe_callTy call_list_of (by rfl) T.list (by decide +kernel) (pa_cons (pe_ix ix_tup (pv 0) pe_int (fun _ _ => rfl)) pa_nil)) (pe_lst (pa_cons pe_str pa_nil))))) pss_nil)
    (pss_one (ps_ret (pe_op op_cat (pe_callTy call_list_of (by rfl) T.list (by decide +kernel) (pa_cons (pe_ix ix_tup (pv 0) pe_int (fun _ _ => rfl)) pa_nil)) (pe_kn G_law_locals hr (pa_cons (pe_ix ix_tup (pv 0) pe_int (fun _ _ => rfl)) (pa_cons (pv 1) pa_nil)))))))), ?_⟩
  have wp := wf.pr p hp
  have gl := wf.glen
  have pl2 := wp.plen
  have ll := locs_len (gl := g.gl) wp.ps wp.pay
  obtain ⟨ag, g1, g2, rfl, hg, q1, q2⟩ := hv.t2
  have q10 := q1
  obtain ⟨gg, wg, rfl, hgg, rgg⟩ := q1.tup_inv
  rw [rgg.strs_eq] at hgg
  have hx0 := hx
  obtain ⟨pa, v1, v2, v3, rfl, hpa, s1, s2, s3⟩ := hx.t3
  obtain ⟨pp, wpp, rfl, hpp, rpp⟩ := s2.tup_inv
  rw [rpp.strs_eq] at hpp
  refine ⟨_, rfl, rfl, _, rfl, ?_⟩
  refine ite2 (fun hx => ?_) (fun hx => ?_)
  · have e : pl = "in" := by simpa using hx
    refine ⟨_, rfl, _, _, _, _, rfl, rfl, hg, rfl, gg, _, rfl, .inr hgg, fun l1 n1 => ?_⟩
    have k1 := (Kp.refl (m := none) H).new (o := .lst (g.gl.map V.str)) n1
    refine ⟨_, rfl, _, _, _, _, rfl, rfl, k1.tle.seqT hpa, rfl, pp, _, rfl, .inr (k1.tle.seqT hpp), fun l2 n2 => ?_⟩
    have k2 := k1.new (o := .lst (p.ps.map V.str)) n2
    have h1 := ((Kp.refl (m := none) _).new (o := .lst (p.ps.map V.str)) n2).of (show (upd H l1 (.lst (g.gl.map V.str))) l1 = _ from upd_same)
    refine ⟨l1, l2, _, _, rfl, rfl, h1, upd_same, small_le (by simp only [List.length_map]; omega), fun l3 n3 => ?_⟩
    refine q _ _ (k2.new n3) (k2.dom _ n3) ?_
    unfold stNames
    rw [if_pos e, upd_same, List.map_append]
  have e1 : ¬ pl = "in" := by simpa using hx
  refine ⟨_, rfl, rfl, _, rfl, ?_⟩
  refine ite2 (fun hx => ?_) (fun hx => ?_)
  · have e : pl = "out" := by simpa using hx
    refine ⟨_, rfl, _, _, _, _, rfl, rfl, hg, rfl, gg, _, rfl, .inr hgg, fun l1 n1 => ?_⟩
    have k1 := (Kp.refl (m := none) H).new (o := .lst (g.gl.map V.str)) n1
    refine ⟨small_le (by simp), fun l2 n2 => ?_⟩
    have k2 := k1.new (o := .lst [.str "result"]) n2
    have h1 := ((Kp.refl (m := none) _).new (o := .lst [.str "result"]) n2).of (show (upd H l1 (.lst (g.gl.map V.str))) l1 = _ from upd_same)
    refine ⟨l1, l2, _, _, rfl, rfl, h1, upd_same, small_le (by simp only [List.length_map, List.length_cons, List.length_nil]; omega), fun l3 n3 => ?_⟩
    refine q _ _ (k2.new n3) (k2.dom _ n3) ?_
    unfold stNames
    rw [if_neg e1, if_pos e, upd_same, List.map_append]
    rfl
  have e2 : ¬ pl = "out" := by simpa using hx
  refine ⟨_, rfl, _, _, _, _, rfl, rfl, hg, rfl, gg, _, rfl, .inr hgg, fun l1 n1 => ?_⟩
  have k1 := (Kp.refl (m := none) H).new (o := .lst (g.gl.map V.str)) n1
  refine ⟨_, rfl, _, _, _, _, rfl, rfl, k1.tle.seqT hg, rfl, _, rfl, .ref gg, .ref pa, g.gl, p, rfl, q10.mono k1.tle, hx0.mono k1.tle, wp, fun l2 H2 k2 n2 h2 => ?_⟩
  have k12 := k1.trans k2
  refine ⟨l1, l2, _, _, rfl, rfl, k2.of upd_same, h2, small_le (by simp only [List.length_map]; omega), fun l3 n3 => ?_⟩
  refine q _ _ (k12.new n3) (k12.dom _ n3) ?_
  unfold stNames
  rw [if_neg e1, if_neg e2, upd_same, List.map_append]

abbrev s_law_wanted : Stmt := top 52
abbrev N_law_wanted : List Str := ["_law_program_here", "_law_rows_here", "_law_procedure_here", "_law_found", "_law_place_here", "_law_row"]
theorem sc_law_wanted : FnScope N_law_wanted ["_law_program_here"] (defScope s_law_wanted) := ⟨rfl, rfl, rfl, by decide +kernel, rfl, by decide +kernel, by decide +kernel⟩
theorem ok_law_wanted (T : Bl mg) (D : Df K mg "_law_wanted" s_law_wanted ["_law_program_here"]) (G_law_rows : Kn P w K mg base 5 "_law_rows" ["_law_block_here", "_law_start", "_law_behind"] (spLrows K 3))
    (G_law_place_names : Kn P w K mg base 7 "_law_place_names" ["_law_program_here", "_law_procedure_here", "_law_place_here"] (spLpn K)) : Kn P w K mg base 8 "_law_wanted" ["_law_program_here"] (spLwt K) := by
  refine D.ok sc_law_wanted (fun vs H Q E h => ?_) (fun f cdv A outer s H vs Q E hr h => ?_)
  · obtain ⟨v, g, rfl, _⟩ := h
    rfl
  obtain ⟨v, g, rfl, hv, wf, q⟩ := h
  refine ⟨_, (pss_cons (ps_set (i := 1) sc_law_wanted.nd rfl (by first | exact Or.inl rfl | exact Or.inr rfl) (pe_lst pa_nil))
    (pss_cons (ps_for PassesOwn.never rfl (pi_tup (pe_ix ix_tup (pv 0) pe_int (fun _ _ => rfl))) (pg_name (i := 2) sc_law_wanted.nd rfl (by first | exact Or.inl rfl | exact Or.inr rfl)) (pss_cons (ps_set (i := 3) sc_law_wanted.nd rfl (by first | exact Or.inl rfl | exact Or.inr rfl) (pe_op op_cat (pe_op op_cat (pe_lst (pa_cons pe_str pa_nil)) (pe_lc (own := [("_law_row", 5)]) (g := gName 5) (tt := tYes) rfl sc_law_wanted.nd (pi_list (pe_kn G_law_rows hr (pa_cons (pe_ix ix_tup (pv 2) pe_int (fun _ _ => rfl)) (pa_cons (pe_tup pa_nil) (pa_cons pe_str pa_nil))))) (blkOk_by (own := [("_law_row", 5)]) (N := N_law_wanted) (sc := defScope s_law_wanted) (by decide +kernel)) (fun _ _ _ _ _ => (pg_name (i := 5) sc_law_wanted.nd rfl (by first | exact Or.inl rfl | exact Or.inr rfl))) (fun _ _ _ _ _ => pts_nil) (fun _ _ _ _ _ => (pe_ix (r := rIxT K) ix_tup (pv 5) pe_int (fun _ _ => rfl))))) (pe_lst (pa_cons pe_str pa_nil))))
      (pss_one (ps_set (i := 1) sc_law_wanted.nd rfl (by first | exact Or.inl rfl | exact Or.inr rfl) (pe_op op_cat (pv 1) (pe_lc (own := [("_law_place_here", 4)]) (g := gName 4) (tt := tYes) rfl sc_law_wanted.nd (pi_list (pv 3)) (blkOk_by (own := [("_law_place_here", 4)]) (N := N_law_wanted) (sc := defScope s_law_wanted) (by decide +kernel)) (fun _ _ _ _ _ => (pg_name (i := 4) sc_law_wanted.nd rfl (by first | exact Or.inl rfl | exact Or.inr rfl))) (fun _ _ _ _ _ => pts_nil) (fun _ _ _ _ _ => (pe_tup (pa_cons (pe_ix (r := rIxT K) ix_tup (pv 2) pe_int (fun _ _ => rfl)) (pa_cons (pv 4) (pa_cons (pe_kn G_law_place_names hr (pa_cons (pv 0) (pa_cons (pv 2) (pa_cons (pv 4) pa_nil)))) pa_nil)))))))))))
    (pss_one (ps_ret (pv 1))))), ?_⟩
  have hv0 := hv
  obtain ⟨ag, g1, g2, rfl, hg, q1, q2⟩ := hv.t2
  obtain ⟨b, ws, rfl, hs, r⟩ := q2.tup_inv
  have hrows := wf.rows
  refine ⟨Nat.zero_le _, fun o ho => ?_⟩
  have k0 : Kp none H (upd H o (.lst [])) := (Kp.refl _).new ho
  refine ⟨_, rfl, _, _, _, _, rfl, rfl, k0.tle.seqT hg, rfl, b, rfl, ⟨_, k0.tle.seqT hs⟩, for_dt encPr g.prs (k0.tle.seqT hs) (r.mono k0.tle)
    (fun l σ' H' => ∃ o', (∃ y2 y3 y4 y5, σ' = [some (.ref ag), some (.ref o'), y2, y3, y4, y5]) ∧ Kp none H H' ∧ TLe (upd H o (.lst [])) H' ∧ H o' = none ∧ ∃ vs, H' o' = some (.lst vs) ∧ WtA (fun b => H b = none) H' vs (wrows g l))
    ⟨o, ⟨_, _, _, _, rfl⟩, k0, TLe.refl _, ho, [], upd_same, by simpa [wrows] using WtA.nil⟩ (fun l σ' H' z => by obtain ⟨_, _, _, t, _⟩ := z; exact t) ?_ ?_⟩
  · rintro pre x post y σ' H1 e ry ⟨o1, ⟨y2, y3, y4, y5, rfl⟩, k1, t1, no1, vs1, ho1, wt1⟩
    have hm : x ∈ g.prs := by rw [e]; simp
    have wp := wf.pr x hm
    have hz : (wrows g pre).length + (placesL x.body).length ≤ 3608 := by
      have h1 := congrArg List.length (wrows_key g g.prs)
      rw [List.length_map] at h1
      rw [e] at h1 hrows
      have e2 : wrows g (pre ++ x :: post) = wrows g pre ++ (wpl g x ++ wrows g post) := by simp [wrows]
      rw [e2, List.length_append, List.length_append] at h1
      have e3 : (wpl g x).length = (placesL x.body).length := by simp [wpl]
      omega
    have hpl := placesL_len x.body
    have hcnt := wp.cnt
    have hv1 := wt1.len
    have ry0 := ry
    obtain ⟨c, v1, v2, v3, rfl, hc, s1, s2, s3⟩ := ry.t3
    rw [s1.str_inv] at hc
    -- found
    refine ⟨small_le (by simp), fun l1 n1 => ?_⟩
    have k2 := (Kp.refl (m := none) H1).new (o := .lst [.str "in"]) n1
    refine ⟨_, rfl, _, _, _, _, rfl, rfl, k2.tle.seqT hc, rfl, Nat.zero_le _, fun t1' nt1 => ?_⟩
    have k3 := k2.new (o := .tup []) nt1
    refine ⟨v3, .ref t1', "out", x.body, [], rfl, s3.mono k3.tle, Rp.mk nt1 .nil, wp.dep, by have := wp.dep; simp; omega, by simp, by omega, fun rl H4 k4 n4 lr => ?_⟩
    obtain ⟨rv, hrv, prv⟩ := lr
    have lrv := prv.len
    rw [ptxs, List.length_map, pathL_len] at lrv
    have k14 := k3.trans k4
    refine ⟨rl, rfl, ⟨_, .inl (.inl hrv)⟩, fun D1 hD1 => loop_l (vs := rv) (fun i H' => Kp none H4 H' ∧ H' D1 = some (.lst (((ptxs (pathL [] 0 x.body)).take i).map V.str))) ⟨(Kp.refl _).new hD1, upd_same⟩ (fun i H' z => z.1.lst (.inl (.inl hrv))) ?_ ?_⟩
    · rintro i y H' hy ⟨k5, hD5⟩
      have hi : i < rv.length := (List.getElem?_eq_some_iff.mp hy).1
      have hi2 : i < (ptxs (pathL [] 0 x.body)).length := by rw [← prv.len]; exact hi
      have hxi : (ptxs (pathL [] 0 x.body))[i]? = some (ptxs (pathL [] 0 x.body))[i] := List.getElem?_eq_getElem hi2
      obtain ⟨bb, rest, h1, h2⟩ := prv.get hxi
      rw [hy] at h1
      cases h1
      refine ⟨rfl, _, rfl, _, _, _, _, rfl, rfl, .inl (.inl ((k5.tle _).1 _ h2)), at0, _, hD5, small_lt (by rw [List.length_map, List.length_take]; omega), k5.put hD1, ?_⟩
      rw [upd_same, (take_split hxi).2, List.map_append]
      rfl
    · rintro H5 ⟨k5, hD5⟩
      have eT : (ptxs (pathL [] 0 x.body)).take rv.length = ptxs (pathL [] 0 x.body) := by rw [prv.len, List.take_length]
      rw [eT] at hD5
      have k15 := k14.trans k5
      have h1 := (((Kp.refl (m := none) _).new (o := .tup []) nt1).trans (k4.trans k5)).of (show (upd H1 l1 (.lst [.str "in"])) l1 = _ from upd_same)
      have lpx : (ptxs (pathL [] 0 x.body)).length = (allL x.body).length := by rw [ptxs, List.length_map, pathL_len]
      refine ⟨l1, D1, _, _, rfl, rfl, h1, hD5, small_le (by simp only [List.length_cons, List.length_nil, List.length_map]; omega), fun l2 n2 => ⟨small_le (by simp), fun l3 n3 => ?_⟩⟩
      have k6 := ((Kp.refl (m := none) H5).new (o := .lst ([.str "in"] ++ (ptxs (pathL [] 0 x.body)).map V.str)) n2)
      have k7 := k6.new (o := .lst [.str "out"]) n3
      have h2 := ((Kp.refl (m := none) _).new (o := .lst [.str "out"]) n3).of (show (upd H5 l2 (.lst ([.str "in"] ++ (ptxs (pathL [] 0 x.body)).map V.str))) l2 = _ from upd_same)
      refine ⟨l2, l3, _, _, rfl, rfl, h2, upd_same, small_le (by simp only [List.length_append, List.length_cons, List.length_nil, List.length_map]; omega), fun l4 n4' => ?_⟩
      have eF : [V.str "in"] ++ (ptxs (pathL [] 0 x.body)).map V.str ++ [V.str "out"] = (placesL x.body).map V.str := by simp [placesL, ptxs]
      have k8 := k7.new (o := .lst ([.str "in"] ++ (ptxs (pathL [] 0 x.body)).map V.str ++ [.str "out"])) n4'
      have h4 : (upd (upd (upd H5 l2 (.lst ([.str "in"] ++ (ptxs (pathL [] 0 x.body)).map V.str))) l3 (.lst [.str "out"])) l4 (.lst ([.str "in"] ++ (ptxs (pathL [] 0 x.body)).map V.str ++ [.str "out"]))) l4 = some (.lst ((placesL x.body).map V.str)) := by rw [upd_same, eF]
      have kA := k15.trans k8
      generalize upd (upd (upd H5 l2 (.lst ([.str "in"] ++ (ptxs (pathL [] 0 x.body)).map V.str))) l3 (.lst [.str "out"])) l4 (.lst ([.str "in"] ++ (ptxs (pathL [] 0 x.body)).map V.str ++ [.str "out"])) = HA at k8 h4 kA ⊢
      -- the rows
      refine ⟨_, rfl, _, rfl, l4, rfl, ⟨_, .inl (.inl h4)⟩, fun D2 hD2 => loop_l (vs := (placesL x.body).map V.str) (fun i H' => Kp none HA H' ∧ ∃ acc, H' D2 = some (.lst acc) ∧ WtA (fun b => H b = none ∧ b ≠ D2) H' acc ((wpl g x).take i))
        ⟨(Kp.refl _).new hD2, [], upd_same, by simpa using WtA.nil⟩ (fun i H' z => z.1.lst (.inl (.inl h4))) ?_ ?_⟩
      · rintro i y H' hy ⟨kB, acc, hacc, wacc⟩
        rw [List.getElem?_map] at hy
        obtain ⟨pl, hpi, rfl⟩ := Option.map_eq_some_iff.mp hy
        have hi : i < (placesL x.body).length := (List.getElem?_eq_some_iff.mp hpi).1
        have kAB := kA.trans kB
        refine ⟨rfl, _, rfl, _, _, _, _, rfl, rfl, kAB.tle.seqT hc, rfl, _, rfl, _, rfl, _, rfl, _, rfl, .ref ag, .ref c, pl, g, x, rfl, hv0.mono (k1.trans kAB).tle, ry0.mono kAB.tle, wf, hm, fun L H6 k6 nL hL => ⟨small_le (by simp), fun t nt => ?_⟩⟩
        have k7 := k6.new (o := .tup [.str x.name, .str pl, .ref L]) nt
        have ha7 := k7.of hacc
        have lacc := wacc.len
        rw [List.length_take] at lacc
        have e3 : (wpl g x).length = (placesL x.body).length := by simp [wpl]
        have nLD : L ≠ D2 := fun e => by rw [e, hacc] at nL; cases nL
        have hL7 := ((Kp.refl (m := none) H6).new (o := .tup [.str x.name, .str pl, .ref L]) nt).of hL
        refine ⟨acc, ha7, small_lt (by omega), (kB.trans k7).put hD2, acc ++ [.ref t], upd_same, ?_⟩
        have hwi : (wpl g x)[i]? = some (x.name, pl, stNames g x pl) := by unfold wpl; rw [List.getElem?_map, hpi]; rfl
        rw [(take_split hwi).2]
        refine WtA.app (wacc.mono (k7.tle.trans (TLe.put ha7)) fun b' xs' hb hx => ⟨hb, by rw [upd_ne hb.2]; exact k7.of hx⟩) (.cons ?_ ⟨(k1.trans kAB).dom _ nL, nLD⟩ (by rw [upd_ne nLD]; exact hL7) .nil)
        rw [upd_ne (fun e => by rw [e, k6.of hacc] at nt; cases nt)]
        exact upd_same
      · rintro H6 ⟨kB, acc, hacc, wacc⟩
        have eW : (wpl g x).take ((placesL x.body).map V.str).length = wpl g x := by
          rw [List.take_of_length_le]
          simp [wpl]
        rw [eW] at wacc
        have lacc := wacc.len
        have e3 : (wpl g x).length = (placesL x.body).length := by simp [wpl]
        have k16 := kA.trans kB
        refine ⟨o1, D2, _, _, rfl, rfl, k16.of ho1, hacc, small_le (by omega), fun o2 no2 => ?_⟩
        have k7 := (Kp.refl (m := none) H6).new (o := .lst (vs1 ++ acc)) no2
        refine ⟨o2, ⟨_, _, _, _, rfl⟩, (k1.trans k16).trans k7, (t1.trans k16.tle).trans k7.tle, (k1.trans k16).dom _ no2, _, upd_same, ?_⟩
        rw [wrows_snoc]
        exact (wt1.mono (k16.tle.trans k7.tle) fun b' xs' hb hx => ⟨hb, k7.of (k16.of hx)⟩).app (wacc.mono k7.tle fun b' xs' hb hx => ⟨hb.1, k7.of hx⟩)
  · rintro σ' H1 ⟨o1, ⟨y2, y3, y4, y5, rfl⟩, k1, t1, no1, vs1, ho1, wt1⟩
    exact ⟨_, rfl, q _ _ _ k1 no1 ho1 wt1⟩
end
end Cl

/-! Carryclaim, the law's own defs: _law_lines; what a generated paper is like. -/
namespace Cl
open PySem PySem.Spec PyProof.Rows L2
structure RwRel (r : Row) (x : Wr) : Prop where
  nm : r.nm = x.1
  pl : r.pl = x.2.1
  st : ∀ l, r.st = some l → l.map (·.1) = x.2.2 ∧ ∀ e ∈ l, RgOk e.2
structure PapOk (g : Pg) (rs : List Row) : Prop where
  key : (rs.map fun r => (r.nm, r.pl)) = prows g.prs
  row : ∀ r ∈ rs, ∃ x ∈ wrows g g.prs, RwRel r x
theorem wrows_mem {g : Pg} {l : List Pr} {x : Wr} (h : x ∈ wrows g l) : ∃ p ∈ l, x.1 = p.name ∧ x.2.1 ∈ placesL p.body ∧ x.2.2 = stNames g p x.2.1 := by
  unfold wrows wpl at h
  obtain ⟨p, hp, h⟩ := List.mem_flatMap.mp h
  obtain ⟨z, hz, rfl⟩ := List.mem_map.mp h
  exact ⟨p, hp, rfl, hz, rfl⟩
theorem stNames_nm {g : Pg} {p : Pr} {pl : Str} (wf : WfPg g) (wp : WfPr g.gl p) : (∀ x ∈ stNames g p pl, x ∈ NM) ∧ (stNames g p pl).length ≤ 20 := by
  have h1 := wf.glen
  have h2 := wp.plen
  have h3 := locs_len (gl := g.gl) wp.ps wp.pay
  unfold stNames
  split
  · refine ⟨fun x hx => ?_, by rw [List.length_append]; omega⟩
    rcases List.mem_append.mp hx with hx | hx
    · exact wf.gl x hx
    · exact wp.ps x hx
  · split
    · refine ⟨fun x hx => ?_, by simp only [List.length_append, List.length_cons, List.length_nil]; omega⟩
      rcases List.mem_append.mp hx with hx | hx
      · exact wf.gl x hx
      · rw [List.mem_singleton.mp hx]; decide +kernel
    · refine ⟨fun x hx => ?_, by rw [List.length_append]; omega⟩
      rcases List.mem_append.mp hx with hx | hx
      · exact wf.gl x hx
      · exact locs_nm wp.ps wp.pay hx
theorem pathText_free {q : List Nat} : 10 ∉ TL.tl (pathText q) := fun h => by
  unfold pathText at h
  rw [TL.join_eq, TL.tl_join, tl_dot] at h
  rcases joinL_mem h with h | ⟨z, hz, h⟩
  · omega
  · rw [List.map_map] at hz
    obtain ⟨n, _, rfl⟩ := List.mem_map.mp hz
    have e : TL.tl (numText n) = TL.numL n := TL.tl_num n
    rw [show (TL.tl ∘ numText) n = TL.tl (numText n) from rfl, e] at h
    exact TL.numL_free (by omega) h
theorem joinL_len (s : Nat) : ∀ ps : List (List Nat), (TL.joinL [s] ps).length ≤ (ps.map (·.length)).sum + ps.length
  | [] => by simp [TL.joinL]
  | [p] => by simp [TL.joinL]
  | p :: q :: r => by
    have ih := joinL_len s (q :: r)
    show (p ++ ([s] ++ TL.joinL [s] (q :: r))).length ≤ _
    simp only [List.length_append, List.length_cons, List.length_nil, List.map_cons, List.sum_cons] at ih ⊢
    omega
theorem pathText_len {q : List Nat} (h1 : q.length ≤ 7) (h2 : ∀ n ∈ q, n < 10000) : (pathText q).length ≤ 40 := by
  unfold pathText
  rw [TL.len_tl, TL.join_eq, TL.tl_join, tl_dot]
  have a := joinL_len 46 ((q.map numText).map TL.tl)
  have b : (((q.map numText).map TL.tl).map (·.length)).sum ≤ ((q.map numText).map TL.tl).length * 4 := sum_le fun x hx => by
    obtain ⟨y, hy, rfl⟩ := List.mem_map.mp hx
    obtain ⟨n, hn, rfl⟩ := List.mem_map.mp hy
    rw [← TL.len_tl]
    exact numText_len (h2 n hn)
  simp only [List.length_map] at a b
  omega
theorem place_ok {b : List Stm} {z : Str} (hd : depL b ≤ 3) (hc : (allL b).length ≤ 900) (h : z ∈ placesL b) : z.length ≤ 60 ∧ 10 ∉ TL.tl z := by
  unfold placesL at h
  rcases List.mem_cons.mp h with rfl | h
  · decide +kernel
  · rcases List.mem_append.mp h with h | h
    · obtain ⟨q, hq, rfl⟩ := List.mem_map.mp h
      obtain ⟨z1, z2⟩ := pathL_ok (M := 900) (by decide) b [] 0 q (by simp) (by omega) hq
      exact ⟨Nat.le_trans (pathText_len (by simp at z1; omega) fun n hn => by have := z2 n hn; omega) (by decide), pathText_free⟩
    · rw [List.mem_singleton.mp h]
      decide +kernel
theorem PapOk.ok {g : Pg} {rs : List Row} (wf : WfPg g) (h : PapOk g rs) : ∀ r ∈ rs, RowOk r ∧ 10 ∉ TL.tl r.pl := by
  intro r hr
  obtain ⟨x, hx, rel⟩ := h.row r hr
  obtain ⟨p, hp, e1, e2, e3⟩ := wrows_mem hx
  have wp := wf.pr p hp
  obtain ⟨z1, z2⟩ := place_ok wp.dep wp.cnt e2
  rw [← rel.pl] at z1 z2 e3
  obtain ⟨n1, n2⟩ := stNames_nm (pl := r.pl) wf wp
  refine ⟨⟨by rw [rel.nm, e1]; exact wp.name, z1, fun l e => ?_, fun l e en hen => ?_⟩, z2⟩
  · have := (rel.st l e).1
    rw [e3] at this
    have := congrArg List.length this
    rw [List.length_map] at this
    omega
  · obtain ⟨a, b⟩ := rel.st l e
    refine ⟨n1 _ ?_, b en hen⟩
    rw [← e3, ← a]
    exact List.mem_map.mpr ⟨en, hen, rfl⟩
theorem PapOk.names {g : Pg} {rs : List Row} (wf : WfPg g) (h : PapOk g rs) : ∀ r ∈ rs, ∀ p l, findPr g r.nm = some p → r.st = some l → l.map (·.1) = stNames g p r.pl := by
  intro r hr p l hp hl
  obtain ⟨x, hx, rel⟩ := h.row r hr
  obtain ⟨p', hp', e1, e2, e3⟩ := wrows_mem hx
  have hf := wf.find hp'
  rw [← e1, ← rel.nm, hp] at hf
  obtain rfl := Option.some.inj hf
  rw [(rel.st l hl).1, e3, rel.pl]
theorem PapOk.len {g : Pg} {rs : List Row} (wf : WfPg g) (h : PapOk g rs) : rs.length ≤ 3608 := by
  have := wf.rows
  rw [← h.key, List.length_map] at this
  exact this
theorem StOk.pre {l : List Ent} {pre post : List Ent} (h : StOk (some l)) (e : l = pre ++ post) : StOk (some pre) := by
  refine ⟨fun l' e' => ?_, fun l' e' x hx => ?_⟩
  · cases e'
    have := h.len l rfl
    rw [e, List.length_append] at this
    omega
  · cases e'
    exact h.ent l rfl x (by rw [e]; exact List.mem_append_left _ hx)
theorem stTx_nil : stTx (some []) = Str.empty := by
  refine TL.ext_tl ?_
  show TL.tl (Txt.join "" ([].map enTx)) = _
  rw [tl_join0]
  rfl
theorem stTx_snoc (B : Str) (pre : List Ent) (e : Ent) : ((((B ++ stTx (some pre)) ++ (" ":Str)) ++ e.1) ++ ("=":Str)) ++ rgTx e.2 = B ++ stTx (some (pre ++ [e])) := by
  refine TL.ext_tl ?_
  have h : ∀ l : List Ent, TL.tl (stTx (some l)) = ((l.map enTx).map TL.tl).flatten := fun l => tl_join0 _
  simp only [TL.tl_append, h, List.map_append, List.map_cons, List.map_nil, List.flatten_append, List.flatten_cons, List.flatten_nil, List.append_nil, List.append_assoc]
  congr 2
  unfold enTx
  simp only [TL.tl_append, tl_empty, List.nil_append, List.append_assoc]
def spLln (K : PySem.W.Frag) : Sp := fun vs H Q _ => ∃ (v : V) (rs : List Row), vs = [v] ∧ Rp K H v (encPap rs) ∧ rs.length ≤ 8000 ∧ (∀ r ∈ rs, RowOk r) ∧ ∀ o H', Kp none H H' → H o = none → H' o = some (.lst ((rs.map lnTx).map V.str)) → Q (.ref o) H'
section
variable {P : Program} {w : World} {K : PySem.W.Frag} {mg : Str → Option Value} {base : Heap}
abbrev s_law_lines : Stmt := top 55
abbrev N_law_lines : List Str := ["_law_paper_here", "_law_lines_here", "_law_name", "_law_place_here", "_law_found", "_law_line", "_law_one", "_law_told"]
theorem sc_law_lines : FnScope N_law_lines ["_law_paper_here"] (defScope s_law_lines) := ⟨rfl, rfl, rfl, by decide +kernel, rfl, by decide +kernel, by decide +kernel⟩
theorem ok_law_lines (D : Df K mg "_law_lines" s_law_lines ["_law_paper_here"]) (G_law_range_text : Kn P w K mg base 1 "_law_range_text" ["_law_one"] (spRgTx K)) : Kn P w K mg base 2 "_law_lines" ["_law_paper_here"] (spLln K) := by
  refine D.ok sc_law_lines (fun vs H Q E h => ?_) (fun f cdv A outer s H vs Q E hr h => ?_)
  · obtain ⟨v, rs, rfl, _⟩ := h
    rfl
  obtain ⟨v, rs, rfl, hv, hl, ok, q⟩ := h
  refine ⟨_, (pss_cons (ps_set (i := 1) sc_law_lines.nd rfl (by first | exact Or.inl rfl | exact Or.inr rfl) (pe_lst pa_nil))
    (pss_cons (ps_for PassesOwn.never rfl (pi_tup (pv 0)) (pg_tup rfl (pgs_cons (pg_name (i := 2) sc_law_lines.nd rfl (by first | exact Or.inl rfl | exact Or.inr rfl)) (pgs_cons (pg_name (i := 3) sc_law_lines.nd rfl (by first | exact Or.inl rfl | exact Or.inr rfl)) (pgs_cons (pg_name (i := 4) sc_law_lines.nd rfl (by first | exact Or.inl rfl | exact Or.inr rfl)) pgs_nil)))) (pss_cons (ps_set (i := 5) sc_law_lines.nd rfl (by first | exact Or.inl rfl | exact Or.inr rfl) (pe_op op_add_str (pe_op op_add_str (pv 2) pe_str) (pv 3)))
      (pss_cons (ps_if (pt_cmpR op_isN (pv 4) pe_non (nomark _)) (pss_one (ps_set (i := 5) sc_law_lines.nd rfl (by first | exact Or.inl rfl | exact Or.inr rfl) (pe_op op_add_str (pv 5) pe_str))) (pss_one (ps_for PassesOwn.never rfl (pi_tup (pv 4)) (pg_tup rfl (pgs_cons (pg_name (i := 6) sc_law_lines.nd rfl (by first | exact Or.inl rfl | exact Or.inr rfl)) (pgs_cons (pg_name (i := 7) sc_law_lines.nd rfl (by first | exact Or.inl rfl | exact Or.inr rfl)) pgs_nil))) (pss_one (ps_set (i := 5) sc_law_lines.nd rfl (by first | exact Or.inl rfl | exact Or.inr rfl) (pe_op op_add_str (pe_op op_add_str (pe_op op_add_str (pe_op op_add_str (pv 5) pe_str) (pv 6)) pe_str) (pe_kn G_law_range_text hr (pa_cons (pv 7) pa_nil))))))))
      (pss_one (ps_expr (pe_bm PySem.F.plainAttrs_list PySem.F.slot_list_append PySem.F.type_list_append mt_append (pv 1) (pa_cons (pv 5) pa_nil)))))))
    (pss_one (ps_ret (pv 1))))), ?_⟩
  obtain ⟨a, ws, rfl, hs, r⟩ := hv.tup_inv
  refine ⟨Nat.zero_le _, fun o ho => ?_⟩
  have k0 : Kp none H (upd H o (.lst [])) := (Kp.refl _).new ho
  refine ⟨_, rfl, a, rfl, ⟨_, k0.tle.seqT hs⟩, for_dt encRow rs (k0.tle.seqT hs) (r.mono k0.tle)
    (fun l σ' H' => (∃ y2 y3 y4 y5 y6 y7, σ' = [some (.ref a), some (.ref o), y2, y3, y4, y5, y6, y7]) ∧ Kp none H H' ∧ TLe (upd H o (.lst [])) H' ∧ H' o = some (.lst ((l.map lnTx).map V.str)))
    ⟨⟨_, _, _, _, _, _, rfl⟩, k0, TLe.refl _, upd_same⟩ (fun l σ' H' z => z.2.2.1) ?_ ?_⟩
  · rintro pre x post y σ' H1 e ry ⟨⟨y2, y3, y4, y5, y6, y7, rfl⟩, k1, t1, ho1⟩
    have okx := ok x (by rw [e]; simp)
    have lpre : pre.length < rs.length := by rw [e]; simp
    obtain ⟨l1, l2, l3, l4⟩ := lnTx_len okx
    have ls := stTx_len okx.st
    have d1 : (" ":Str).length = 1 := by decide +kernel
    have d2 : ("=":Str).length = 1 := by decide +kernel
    have d3 : (" never":Str).length = 6 := by decide +kernel
    have lB : (x.nm ++ (" ":Str) ++ x.pl).length ≤ 80 := by
      have b := PN_len6 _ okx.nm
      have c := okx.pl
      simp only [ln_app, d1]
      omega
    obtain ⟨c, v1, v2, v3, rfl, hc, s1, s2, s3⟩ := ry.t3
    rw [s1.str_inv, s2.str_inv] at hc
    refine ⟨c, _, rfl, hc, rfl, _, _, rfl, _, _, rfl, _, _, rfl, rfl, ?_⟩
    refine ⟨_, rfl, _, _, rfl, rfl, small_le (by omega), _, rfl, _, _, rfl, rfl, small_le (by omega), ?_⟩
    cases hst : x.st with
    | none =>
      rw [hst] at s3
      rw [s3.non_inv]
      refine ⟨_, rfl, rfl, _, rfl, ?_⟩
      refine ⟨_, rfl, _, _, rfl, rfl, small_le (by omega), ?_⟩
      refine ⟨_, rfl, .inl ⟨rfl, _, .inl (.inl ho1)⟩, _, rfl, o, _, _, rfl, rfl, ho1, small_lt (by simp only [List.length_map]; omega), ?_⟩
      refine ⟨⟨_, _, _, _, _, _, rfl⟩, k1.put ho, t1.trans (TLe.put ho1), ?_⟩
      rw [upd_same]
      have el : lnTx x = x.nm ++ (" ":Str) ++ x.pl ++ (" never":Str) := by unfold lnTx; rw [hst]; rfl
      rw [List.map_append, List.map_append, ← el]
      rfl
    | some l =>
      rw [hst] at s3
      have oks := okx.st
      rw [hst] at oks
      obtain ⟨b, wb, rfl, hb, rb⟩ := s3.tup_inv
      refine ⟨_, rfl, rfl, _, rfl, ?_⟩
      refine ⟨_, rfl, b, rfl, ⟨_, hb⟩, for_dt encEn l hb rb
        (fun l' σ' H' => (∃ y6 y7, σ' = [some (.ref a), some (.ref o), some (.str x.nm), some (.str x.pl), some (.ref b), some (.str ((x.nm ++ (" ":Str) ++ x.pl) ++ stTx (some l'))), y6, y7]) ∧ Kp none H1 H')
        ⟨⟨_, _, by rw [stTx_nil, show (x.nm ++ (" ":Str) ++ x.pl) ++ Str.empty = x.nm ++ (" ":Str) ++ x.pl from TL.ext_tl (by rw [TL.tl_append, tl_empty, List.append_nil])]; rfl⟩, Kp.refl _⟩ (fun l σ' H' z => z.2.tle) ?_ ?_⟩
      · rintro pre2 en post2 y σ4 H4 e2 ren ⟨⟨z6, z7, rfl⟩, k4⟩
        obtain ⟨p1, p2⟩ := oks.ent l rfl en (by rw [e2]; simp)
        have lp := stTx_len (oks.pre e2)
        have ln1 := NM_len6 _ p1
        have ln2 := rgTx_len p2
        obtain ⟨d, w1, w2, rfl, hd, r1, r2⟩ := ren.t2
        rw [r1.str_inv] at hd
        refine ⟨d, _, rfl, hd, rfl, _, _, rfl, _, _, rfl, rfl, ?_⟩
        refine ⟨_, rfl, _, _, rfl, rfl, small_le ?_, _, rfl, _, _, rfl, rfl, small_le ?_, _, _, rfl, rfl, small_le ?_, _, rfl, w2, en.2, rfl, r2, p2, fun H5 k5 => ⟨_, _, rfl, rfl, small_le ?_, ?_⟩⟩
        · simp only [ln_app, d1, d2] at lB ⊢; omega
        · simp only [ln_app, d1, d2] at lB ⊢; omega
        · simp only [ln_app, d1, d2] at lB ⊢; omega
        · simp only [ln_app, d1, d2] at lB ⊢; omega
        · refine ⟨⟨some (.str en.1), some w2, ?_⟩, k4.trans k5⟩
          rw [stTx_snoc]
          rfl
      · rintro σ4 H4 ⟨⟨z6, z7, rfl⟩, k4⟩
        have ho4 := k4.of ho1
        refine ⟨_, rfl, .inl ⟨rfl, _, .inl (.inl ho4)⟩, _, rfl, o, _, _, rfl, rfl, ho4, small_lt (by simp only [List.length_map]; omega), ?_⟩
        refine ⟨⟨_, _, _, _, _, _, rfl⟩, (k1.trans k4).put ho, (t1.trans k4.tle).trans (TLe.put ho4), ?_⟩
        rw [upd_same]
        have el : lnTx x = x.nm ++ (" ":Str) ++ x.pl ++ stTx (some l) := by unfold lnTx; rw [hst]
        rw [List.map_append, List.map_append, ← el]
        rfl
  · rintro σ' H1 ⟨⟨y2, y3, y4, y5, y6, y7, rfl⟩, k1, t1, ho1⟩
    exact ⟨_, rfl, q _ _ k1 ho ho1⟩
end
end Cl

/-! Carryclaim, the law's own defs: _law_blank, _law_paper. -/
namespace Cl
open PySem PySem.Spec PyProof.Rows L2
theorem PN_strOk : ∀ x ∈ PN, PyData.strOk x = true := by decide +kernel
theorem place_strOk {b : List Stm} {z : Str} (h : z ∈ placesL b) : PyData.strOk z = true := by
  unfold placesL at h
  rcases List.mem_cons.mp h with rfl | h
  · decide +kernel
  · rcases List.mem_append.mp h with h | h
    · obtain ⟨q, _, rfl⟩ := List.mem_map.mp h
      unfold PyData.strOk
      rw [← Array.all_toList, List.all_eq_true]
      intro c hc
      have := pathText_signs (p := q) (c := c) hc
      rw [decide_eq_true_eq]
      omega
    · rw [List.mem_singleton.mp h]
      decide +kernel
def bRow (g : Pg) (x : Wr) : Row := ⟨x.1, x.2.1, blkSt g (x.1, x.2.1)⟩
def spLbl (K : PySem.W.Frag) : Sp := fun vs H Q _ => ∃ (v : V) (g : Pg), vs = [v] ∧ Rp K H v (encPg g) ∧ WfPg g ∧ ∀ u H', Kp none H H' → Rp K H' u (encPap ((prows g.prs).map (mkRow (blkSt g)))) → Q u H'
def spLpap (K : PySem.W.Frag) (ns : List Int) : Sp := fun vs H Q _ => ∃ (st sc : Addr) (v : V) (g : Pg), vs = [.ref st, .ref sc, v] ∧ Gn K ns st sc H ∧ Rp K H v (encPg g) ∧ WfPg g ∧ ∀ u rs H', Kp (some st) H H' → Gn K ns st sc H' → Rp K H' u (encPap rs) → PapOk g rs → Q u H'
theorem blank_rows (g : Pg) : (wrows g g.prs).map (bRow g) = (prows g.prs).map (mkRow (blkSt g)) := by
  rw [← wrows_key g, List.map_map]
  rfl
section
variable {P : Program} {w : World} {K : PySem.W.Frag} {mg : Str → Option Value} {base : Heap} {ns : List Int}
abbrev s_law_blank : Stmt := top 56
abbrev N_law_blank : List Str := ["_law_program_here", "_law_rows_here", "_law_name", "_law_place_here", "_law_names", "_law_found", "_law_one"]
theorem sc_law_blank : FnScope N_law_blank ["_law_program_here"] (defScope s_law_blank) := ⟨rfl, rfl, rfl, by decide +kernel, rfl, by decide +kernel, by decide +kernel⟩
theorem ok_law_blank (T : Bl mg) (D : Df K mg "_law_blank" s_law_blank ["_law_program_here"]) (G_law_wanted : Kn P w K mg base 8 "_law_wanted" ["_law_program_here"] (spLwt K)) : Kn P w K mg base 9 "_law_blank" ["_law_program_here"] (spLbl K) := by
  refine D.ok sc_law_blank (fun vs H Q E h => ?_) (fun f cdv A outer s H vs Q E hr h => ?_)
  · obtain ⟨v, g, rfl, _⟩ := h
    rfl
  obtain ⟨v, g, rfl, hv, wf, q⟩ := h
  refine ⟨_, (pss_cons (ps_set (i := 1) sc_law_blank.nd rfl (by first | exact Or.inl rfl | exact Or.inr rfl) (pe_lst pa_nil))
    (pss_cons (ps_for PassesOwn.never rfl (pi_list (pe_kn G_law_wanted hr (pa_cons (pv 0) pa_nil))) (pg_tup rfl (pgs_cons (pg_name (i := 2) sc_law_blank.nd rfl (by first | exact Or.inl rfl | exact Or.inr rfl)) (pgs_cons (pg_name (i := 3) sc_law_blank.nd rfl (by first | exact Or.inl rfl | exact Or.inr rfl)) (pgs_cons (pg_name (i := 4) sc_law_blank.nd rfl (by first | exact Or.inl rfl | exact Or.inr rfl)) pgs_nil)))) (pss_cons (ps_set (i := 5) sc_law_blank.nd rfl (by first | exact Or.inl rfl | exact Or.inr rfl) pe_non)
      (pss_cons (ps_if (pt_cmpR (op_eqD hr.units) (pe_tup (pa_cons (pv 2) (pa_cons (pv 3) pa_nil))) (pe_tup (pa_cons pe_str (pa_cons pe_str pa_nil))) (nomark _)) (pss_one (ps_set (i := 5) sc_law_blank.nd rfl (by first | exact Or.inl rfl | exact Or.inr rfl) (pe_callTy call_tuple_of (by rfl) T.tuple (by decide +kernel) (pa_cons (pe_lc (own := [("_law_one", 6)]) (g := gName 6) (tt := tYes) rfl sc_law_blank.nd (pi_list (pv 4)) (blkOk_by (own := [("_law_one", 6)]) (N := N_law_blank) (sc := defScope s_law_blank) (by decide +kernel)) (fun _ _ _ _ _ => (pg_name (i := 6) sc_law_blank.nd rfl (by first | exact Or.inl rfl | exact Or.inr rfl))) (fun _ _ _ _ _ => pts_nil) (fun _ _ _ _ _ => (pe_tup (pa_cons (pv 6) (pa_cons (pe_tup (pa_cons pe_int (pa_cons pe_int (pa_cons pe_int pa_nil)))) pa_nil))))) pa_nil)))) pss_nil)
      (pss_one (ps_expr (pe_bm PySem.F.plainAttrs_list PySem.F.slot_list_append PySem.F.type_list_append mt_append (pv 1) (pa_cons (pe_tup (pa_cons (pv 2) (pa_cons (pv 3) (pa_cons (pv 5) pa_nil)))) pa_nil)))))))
    (pss_one (ps_ret (pe_callTy call_tuple_of (by rfl) T.tuple (by decide +kernel) (pa_cons (pv 1) pa_nil)))))), ?_⟩
  refine ⟨Nat.zero_le _, fun o ho => ?_⟩
  have k0 : Kp none H (upd H o (.lst [])) := (Kp.refl _).new ho
  have hrows := wf.rows
  have hwl := congrArg List.length (wrows_key g g.prs)
  rw [List.length_map] at hwl
  refine ⟨_, rfl, v, g, rfl, hv.mono k0.tle, wf, fun wl H1 ws k1 n1 hw wt => ?_⟩
  have ho1 := k1.of (show (upd H o (.lst [])) o = _ from upd_same)
  have lw := wt.len
  have nF : ∀ b, (upd H o (.lst [])) b = none → b ≠ o := fun b hb e => by rw [e, upd_same] at hb; cases hb
  refine ⟨wl, rfl, ⟨_, .inl (.inl hw)⟩, for_list (K := K) (a := wl) (xs := ws)
    (fun i σ' H' => (∃ y2 y3 y4 y5 y6, σ' = [some v, some (.ref o), y2, y3, y4, y5, y6]) ∧ Kp none H H' ∧ TLe H1 H' ∧ (∀ b xs, (upd H o (.lst [])) b = none → H1 b = some (.lst xs) → H' b = some (.lst xs)) ∧
      ∃ vs, H' o = some (.lst vs) ∧ RpA K H' vs ((((wrows g g.prs).take i).map (bRow g)).map encRow))
    ⟨⟨_, _, _, _, _, rfl⟩, k0.trans k1, TLe.refl _, fun _ _ _ h => h, [], ho1, by simpa using RpA.nil⟩ (fun i σ' H' _ z => .inl (.inl (z.2.2.2.1 _ _ n1 hw))) ?_ ?_⟩
  · rintro i y σ' H2 hy ⟨⟨y2, y3, y4, y5, y6, rfl⟩, k2, t2, st2, vs2, ho2, rv2⟩
    obtain ⟨x, c, L, hxi, rfl, hc, hF, hL⟩ := wt.get hy
    obtain ⟨e1, e2⟩ := take_split hxi
    have hxm : x ∈ wrows g g.prs := List.mem_of_getElem? hxi
    obtain ⟨p, hp, p1, p2, p3⟩ := wrows_mem hxm
    have wp := wf.pr p hp
    have lv2 := rv2.len
    rw [List.length_map, List.length_map, List.length_take] at lv2
    have hL2 := st2 _ _ hF hL
    refine ⟨c, _, rfl, .inl (.inl ((t2 _).1 _ hc)), rfl, _, _, rfl, _, _, rfl, _, _, rfl, rfl, ?_⟩
    refine ⟨_, rfl, _, rfl, small_le (by simp), fun t1 m1 => ⟨small_le (by simp), fun t2' m2 => ?_⟩⟩
    have j1 := (Kp.refl (m := none) H2).new (o := .tup [.str x.1, .str x.2.1]) m1
    have j2 := j1.new (o := .tup [.str "main", .str "in"]) m2
    have R1 : Rp K (upd H2 t1 (.tup [.str x.1, .str x.2.1])) (.ref t1) (.tuple [.str x.1, .str x.2.1]) := Rp.mk m1 (.cons (.str _) (.cons (.str _) .nil))
    have R2 : Rp K (upd (upd H2 t1 (.tup [.str x.1, .str x.2.1])) t2' (.tup [.str "main", .str "in"])) (.ref t2') (.tuple [.str "main", .str "in"]) := Rp.mk m2 (.cons (.str _) (.cons (.str _) .nil))
    have so1 : PyData.strOk x.1 = true := by rw [p1]; exact PN_strOk _ wp.name
    have so2 : PyData.strOk x.2.1 = true := place_strOk p2
    refine ⟨_, _, (R1.mono (TLe.new m2)).dp, R2.dp, by simp [SeqAt.shaped, PyData.canLay0, PyData.canLayAll0, so1, so2, PyData.depth, PyData.depthAll], by decide +kernel, _, rfl, ?_⟩
    have ev : PyData.eqv (.tuple [.str x.1, .str x.2.1]) (.tuple [.str "main", .str "in"]) = decide ((x.1, x.2.1) = (("main" : Str), ("in" : Str))) := by
      simp only [PyData.eqv, PyData.eqvAll, Bool.and_true]
      rw [Bool.eq_iff_iff, Bool.and_eq_true, beq_iff_eq, beq_iff_eq, decide_eq_true_eq, Prod.mk.injEq]
    rw [ev]
    have ho3 := j2.of ho2
    refine ite2 (fun hx => ?_) (fun hx => ?_)
    have hx := of_decide_eq_true hx
    have hL3 := j2.of hL2
    have nsz : x.2.2.length ≤ 20 := by rw [p3]; exact (stNames_nm wf wp).2
    refine ⟨_, rfl, L, rfl, ⟨_, .inl (.inl hL3)⟩, fun D1 hD1 => lc_dl (m := none) PyData.str (fun n => encEn (n, zRg)) x.2.2 (.inl (.inl hL3)) (by simp) (RpA.strs x.2.2) hD1 (.inr rfl) (small_lt (by omega)) ?_ ?_⟩
    · intro n y H' hn k ry R hR
      rw [ry.str_inv]
      refine ⟨rfl, _, rfl, small_le (by simp), fun t3 m3 => ⟨small_le (by simp), fun t4 m4 => ?_⟩⟩
      exact hR _ _ (((Kp.refl _).new m3).new m4) (Rp.mk m4 (.cons (.str _) (.cons (Rp.mk m3 (.cons (.int 0) (.cons (.int 0) (.cons (.int 0) .nil)))) .nil)))
    intro H4 k4 ls4
    obtain ⟨vs4, h4, r4⟩ := ls4
    refine ⟨D1, vs4, rfl, .inl ⟨.inl (.inl h4), fun l1 hl1 => ?_⟩⟩
    have j4 := k4.new (o := .tup vs4) hl1
    have kF := j2.trans j4
    have hz : blkSt g (x.1, x.2.1) = some (x.2.2.map fun n => (n, zRg)) := by
      unfold blkSt zSt
      rw [if_pos hx, p3]
      obtain ⟨h1, h2⟩ := Prod.mk.inj hx
      obtain ⟨pm, hm, hm2⟩ := wf.main
      have hf := wf.find hp
      rw [← p1, h1, hm] at hf
      obtain rfl := Option.some.inj hf
      unfold stNames
      rw [if_pos h2, hm2, List.append_nil]
    have hFv : Rp K (upd H4 l1 (.tup vs4)) (.ref l1) (encSt (blkSt g (x.1, x.2.1))) := by
      rw [hz]
      have := Rp.mk hl1 r4
      have e5 : x.2.2.map (fun n => encEn (n, zRg)) = (x.2.2.map fun n => (n, zRg)).map encEn := by rw [List.map_map]; rfl
      rw [e5] at this
      exact this
    rotate_left
    have hx : ¬ (x.1, x.2.1) = (("main" : Str), ("in" : Str)) := fun h => hx (decide_eq_true h)
    have kF := j2
    have hFv : Rp K (upd (upd H2 t1 (.tup [.str x.1, .str x.2.1])) t2' (.tup [.str "main", .str "in"])) .non (encSt (blkSt g (x.1, x.2.1))) := by
      unfold blkSt
      rw [if_neg hx]
      exact .non
    all_goals
      have ho5 := kF.of ho2
      refine ⟨_, rfl, .inl ⟨rfl, _, .inl (.inl ho5)⟩, _, rfl, _, rfl, _, rfl, small_le (by simp), fun t6 m6 => ?_⟩
      have j6 := fun u : V => (Kp.refl (m := none) _).new (o := .tup [.str x.1, .str x.2.1, u]) m6
      have ho6 := fun u : V => (j6 u).of ho5
      refine ⟨o, vs2, _, rfl, rfl, ho6 _, small_lt (by omega), ?_⟩
      have RT : Rp K _ (.ref t6) (encRow (bRow g x)) := Rp.mk m6 (.cons (.str x.1) (.cons (.str x.2.1) (.cons hFv .nil)))
      refine ⟨⟨_, _, _, _, _, rfl⟩, (k2.trans (kF.trans (j6 _))).put ho, t2.trans ((kF.trans (j6 _)).tle.trans (TLe.put (ho6 _))), fun b xs hb hx => ?_, _, upd_same, ?_⟩
      · rw [upd_ne (nF b hb)]
        exact (kF.trans (j6 _)).of (st2 b xs hb hx)
      · rw [e2, List.map_append, List.map_append]
        exact ((rv2.mono (kF.trans (j6 _)).tle).snoc RT).mono (TLe.put (ho6 _))
  · rintro σ' H2 ⟨⟨y2, y3, y4, y5, y6, rfl⟩, k2, t2, st2, vs2, ho2, rv2⟩
    rw [lw, List.take_length, blank_rows] at rv2
    refine ⟨_, rfl, o, vs2, rfl, .inl ⟨.inl (.inl ho2), fun l hl => ?_⟩⟩
    exact q _ _ (k2.new hl) (Rp.mk hl rv2)
end
end Cl

/-! Carryclaim, the law's own defs: _law_paper. -/
namespace Cl
open PySem PySem.Spec PyProof.Rows L2
section
variable {P : Program} {w : World} {K : PySem.W.Frag} {mg : Str → Option Value} {base : Heap} {ns : List Int}
abbrev s_law_paper : Stmt := top 53
abbrev N_law_paper : List Str := ["_law_state", "_law_script", "_law_program_here", "_law_rows_here", "_law_name", "_law_place_here", "_law_names", "_law_found", "_law_one"]
theorem sc_law_paper : FnScope N_law_paper ["_law_state", "_law_script", "_law_program_here"] (defScope s_law_paper) := ⟨rfl, rfl, rfl, by decide +kernel, rfl, by decide +kernel, by decide +kernel⟩
theorem ok_law_paper (T : Bl mg) (D : Df K mg "_law_paper" s_law_paper ["_law_state", "_law_script", "_law_program_here"]) (G_law_next : Anext P w K mg base ns) (G_law_range : Kn P w K mg base 2 "_law_range" ["_law_state", "_law_script", "_law_wide"] (spLrg K ns))
    (G_law_wanted : Kn P w K mg base 8 "_law_wanted" ["_law_program_here"] (spLwt K)) : Kn P w K mg base 9 "_law_paper" ["_law_state", "_law_script", "_law_program_here"] (spLpap K ns) := by
  refine D.ok sc_law_paper (fun vs H Q E h => ?_) (fun f cdv A outer s H vs Q E hr h => ?_)
  · obtain ⟨st, sc, v, g, rfl, _⟩ := h
    rfl
  obtain ⟨st, sc, v, g, rfl, G, hv, wf, q⟩ := h
  refine ⟨_, (pss_cons (ps_set (i := 3) sc_law_paper.nd rfl (by first | exact Or.inl rfl | exact Or.inr rfl) (pe_lst pa_nil))
    (pss_cons (ps_for PassesOwn.never rfl (pi_list (pe_kn G_law_wanted hr (pa_cons (pv 2) pa_nil))) (pg_tup rfl (pgs_cons (pg_name (i := 4) sc_law_paper.nd rfl (by first | exact Or.inl rfl | exact Or.inr rfl)) (pgs_cons (pg_name (i := 5) sc_law_paper.nd rfl (by first | exact Or.inl rfl | exact Or.inr rfl)) (pgs_cons (pg_name (i := 6) sc_law_paper.nd rfl (by first | exact Or.inl rfl | exact Or.inr rfl)) pgs_nil)))) (pss_cons (ps_set (i := 7) sc_law_paper.nd rfl (by first | exact Or.inl rfl | exact Or.inr rfl) pe_non)
      (pss_cons (ps_if (pt_cmpR op_gt (pe_kn G_law_next hr (pa_cons (pv 0) (pa_cons (pv 1) (pa_cons pe_int pa_nil)))) pe_int (nomark _)) (pss_one (ps_set (i := 7) sc_law_paper.nd rfl (by first | exact Or.inl rfl | exact Or.inr rfl) (pe_callTy call_tuple_of (by rfl) T.tuple (by decide +kernel) (pa_cons (pe_lc (own := [("_law_one", 8)]) (g := gName 8) (tt := tYes) rfl sc_law_paper.nd (pi_list (pv 6)) (blkOk_by (own := [("_law_one", 8)]) (N := N_law_paper) (sc := defScope s_law_paper) (by decide +kernel)) (fun _ _ _ _ _ => (pg_name (i := 8) sc_law_paper.nd rfl (by first | exact Or.inl rfl | exact Or.inr rfl))) (fun _ _ _ _ _ => pts_nil) (fun _ _ _ _ _ => (pe_tup (pa_cons (pv 8) (pa_cons (pe_kn G_law_range hr (pa_cons (pv 0) (pa_cons (pv 1) (pa_cons (pe_cmpR op_eq (pe_kn G_law_next hr (pa_cons (pv 0) (pa_cons (pv 1) (pa_cons pe_int pa_nil)))) pe_int (nomark _)) pa_nil)))) pa_nil))))) pa_nil)))) pss_nil)
      (pss_one (ps_expr (pe_bm PySem.F.plainAttrs_list PySem.F.slot_list_append PySem.F.type_list_append mt_append (pv 3) (pa_cons (pe_tup (pa_cons (pv 4) (pa_cons (pv 5) (pa_cons (pv 7) pa_nil)))) pa_nil)))))))
    (pss_one (ps_ret (pe_callTy call_tuple_of (by rfl) T.tuple (by decide +kernel) (pa_cons (pv 3) pa_nil)))))), ?_⟩
  refine ⟨Nat.zero_le _, fun o ho => ?_⟩
  have k0 : Kp none H (upd H o (.lst [])) := (Kp.refl _).new ho
  have nos := new_ne G ho
  have nos' : o ≠ st := fun e => nos (by rw [e])
  have hrows := wf.rows
  have hwl := congrArg List.length (wrows_key g g.prs)
  rw [List.length_map] at hwl
  have G0 := G.keep k0
  refine ⟨_, rfl, v, g, rfl, hv.mono k0.tle, wf, fun wl H1 ws k1 n1 hw wt => ?_⟩
  have ho1 := k1.of (show (upd H o (.lst [])) o = _ from upd_same)
  have lw := wt.len
  have nF : ∀ b, (upd H o (.lst [])) b = none → b ≠ o := fun b hb e => by rw [e, upd_same] at hb; cases hb
  have nS : ∀ b, (upd H o (.lst [])) b = none → some b ≠ some st := fun b hb => new_ne G0 hb
  refine ⟨wl, rfl, ⟨_, .inl (.inl hw)⟩, for_list (K := K) (a := wl) (xs := ws)
    (fun i σ' H' => (∃ y4 y5 y6 y7 y8, σ' = [some (.ref st), some (.ref sc), some v, some (.ref o), y4, y5, y6, y7, y8]) ∧ Kp (some st) H H' ∧ Gn K ns st sc H' ∧ TLe H1 H' ∧ (∀ b xs, (upd H o (.lst [])) b = none → H1 b = some (.lst xs) → H' b = some (.lst xs)) ∧
      ∃ vs rs, H' o = some (.lst vs) ∧ RpA K H' vs (rs.map encRow) ∧ (rs.map fun r => (r.nm, r.pl)) = ((wrows g g.prs).take i).map (fun x => (x.1, x.2.1)) ∧ ∀ r ∈ rs, ∃ x ∈ wrows g g.prs, RwRel r x)
    ⟨⟨_, _, _, _, _, rfl⟩, (k0.trans k1).up, G0.keep k1, TLe.refl _, fun _ _ _ h => h, [], [], ho1, .nil, rfl, by simp⟩ (fun i σ' H' _ z => .inl (.inl (z.2.2.2.2.1 _ _ n1 hw))) ?_ ?_⟩
  · rintro i y σ' H2 hy ⟨⟨y4, y5, y6, y7, y8, rfl⟩, k2, G2, t2, st2, vs2, rs2, ho2, rv2, key2, rel2⟩
    obtain ⟨x, c, L, hxi, rfl, hc, hF, hL⟩ := wt.get hy
    obtain ⟨e1, e2⟩ := take_split hxi
    have hxm : x ∈ wrows g g.prs := List.mem_of_getElem? hxi
    obtain ⟨p, hp, p1, p2, p3⟩ := wrows_mem hxm
    have wp := wf.pr p hp
    have lv2 := rv2.len
    have lk := congrArg List.length key2
    rw [List.length_map, List.length_map, List.length_take] at lk
    rw [List.length_map] at lv2
    have hL2 := st2 _ _ hF hL
    have nL := nS L hF
    have nsz : x.2.2.length ≤ 20 := by rw [p3]; exact (stNames_nm wf wp).2
    refine ⟨c, _, rfl, .inl (.inl ((t2 _).1 _ hc)), rfl, _, _, rfl, _, _, rfl, _, _, rfl, rfl, ?_⟩
    refine ⟨_, rfl, _, rfl, st, sc, _, rfl, by decide, by decide, G2, fun r3 H3 k3 G3 a1 a2 => ⟨_, _, rfl, rfl, _, rfl, ?_⟩⟩
    refine ite2 (fun _ => ?_) (fun _ => ?_)
    have hL3 := k3.of hL2 nL
    refine ⟨_, rfl, L, rfl, ⟨_, .inl (.inl hL3)⟩, fun D1 hD1 => loop_l (vs := x.2.2.map V.str) (fun i H' => Kp (some st) H3 H' ∧ Gn K ns st sc H' ∧ ∃ acc es, H' D1 = some (.lst acc) ∧ RpA K H' acc (es.map encEn) ∧ es.map (·.1) = x.2.2.take i ∧ ∀ e ∈ es, RgOk e.2)
      ⟨(Kp.refl _).new hD1, G3.keep ((Kp.refl _).new hD1), [], [], upd_same, .nil, rfl, by simp⟩ (fun i H' z => .inl (.inl (z.1.of hL3 nL))) ?_ ?_⟩
    · rintro j y H4 hy4 ⟨k4, G4, acc, es, hacc, racc, hes, rges⟩
      rw [List.getElem?_map] at hy4
      obtain ⟨nmx, hnj, rfl⟩ := Option.map_eq_some_iff.mp hy4
      have nD := new_ne G3 hD1
      have nD' : D1 ≠ st := fun e => nD (by rw [e])
      refine ⟨rfl, _, rfl, _, rfl, _, rfl, _, rfl, _, rfl, st, sc, _, rfl, by decide, by decide, G4, fun r5 H5 k5 G5 b1 b2 => ⟨rfl, st, sc, _, rfl, G5, fun u rg H6 k6 G6 r6 ok6 => ⟨small_le (by simp), fun t nt => ?_⟩⟩⟩
      have k7 := (Kp.refl (m := none) H6).new (o := .tup [.str nmx, u]) nt
      have kX := (k5.trans k6).trans k7.up
      have ha7 := kX.of hacc nD
      have lacc := racc.len
      have les := congrArg List.length hes
      rw [List.length_map, List.length_take] at les
      rw [List.length_map] at lacc
      have kp := fun o : HO => (k4.trans kX).put (o := o) hD1
      have RT : Rp K _ (.ref t) (encEn (nmx, rg)) := Rp.mk nt (.cons (.str nmx) (.cons r6 .nil))
      refine ⟨acc, ha7, small_lt (by omega), kp _, (G3.put (G6.keep k7) (kp _) nD'), acc ++ [.ref t], es ++ [(nmx, rg)], upd_same, ?_, ?_, ?_⟩
      · rw [List.map_append]
        exact ((racc.mono kX.tle).snoc RT).mono (TLe.put ha7)
      · rw [List.map_append, hes, (take_split hnj).2]
        rfl
      · intro e he
        rcases List.mem_append.mp he with he | he
        · exact rges e he
        · rw [List.mem_singleton.mp he]; exact ok6
    rintro H4 ⟨k4, G4, acc, es, hacc, racc, hes, rges⟩
    rw [List.length_map, List.take_length] at hes
    refine ⟨D1, acc, rfl, .inl ⟨.inl (.inl hacc), fun l1 hl1 => ?_⟩⟩
    have j4 := (Kp.refl (m := none) H4).new (o := .tup acc) hl1
    have kF := (k3.trans k4).trans j4.up
    have GF := G4.keep j4
    have hFv : ∃ ste, Rp K (upd H4 l1 (.tup acc)) (.ref l1) (encSt ste) ∧ RwRel ⟨x.1, x.2.1, ste⟩ x := by
      refine ⟨some es, Rp.mk hl1 racc, rfl, rfl, fun l e => ?_⟩
      cases e
      exact ⟨hes, rges⟩
    rotate_left
    have kF := k3
    have GF := G3
    have hFv : ∃ ste, Rp K H3 .non (encSt ste) ∧ RwRel ⟨x.1, x.2.1, ste⟩ x := ⟨none, .non, rfl, rfl, fun l e => by cases e⟩
    all_goals
      obtain ⟨ste, hFr, hrel⟩ := hFv
      have ho5 := kF.of ho2 nos
      refine ⟨_, rfl, .inl ⟨rfl, _, .inl (.inl ho5)⟩, _, rfl, _, rfl, _, rfl, small_le (by simp), fun t6 m6 => ?_⟩
      have j6 := fun u : V => (Kp.refl (m := none) _).new (o := .tup [.str x.1, .str x.2.1, u]) m6
      have ho6 := fun u : V => (j6 u).of ho5
      refine ⟨o, vs2, _, rfl, rfl, ho6 _, small_lt (by omega), ?_⟩
      have RT : Rp K _ (.ref t6) (encRow ⟨x.1, x.2.1, ste⟩) := Rp.mk m6 (.cons (.str x.1) (.cons (.str x.2.1) (.cons hFr .nil)))
      have kp := fun (u : V) (o' : HO) => (k2.trans (kF.trans (j6 u).up)).put (o := o') ho
      refine ⟨⟨_, _, _, _, _, rfl⟩, kp _ _, G.put (GF.keep (j6 _)) (kp _ _) nos', t2.trans ((kF.tle.trans (j6 _).tle).trans (TLe.put (ho6 _))), fun b xs hb hx => ?_, _, rs2 ++ [⟨x.1, x.2.1, ste⟩], upd_same, ?_, ?_, ?_⟩
      · rw [upd_ne (nF b hb)]
        exact (j6 _).of (kF.of (st2 b xs hb hx) (nS b hb))
      · rw [List.map_append]
        exact ((rv2.mono (kF.tle.trans (j6 _).tle)).snoc RT).mono (TLe.put (ho6 _))
      · rw [e2, List.map_append, List.map_append, key2]
        rfl
      · intro r hr
        rcases List.mem_append.mp hr with hr | hr
        · exact rel2 r hr
        · rw [List.mem_singleton.mp hr]; exact ⟨x, hxm, hrel⟩
  · rintro σ' H2 ⟨⟨y4, y5, y6, y7, y8, rfl⟩, k2, G2, t2, st2, vs2, rs2, ho2, rv2, key2, rel2⟩
    rw [lw, List.take_length, wrows_key] at key2
    refine ⟨_, rfl, o, vs2, rfl, .inl ⟨.inl (.inl ho2), fun l hl => ?_⟩⟩
    exact q _ rs2 _ (k2.new hl) (G2.keep ((Kp.refl _).new hl)) (Rp.mk hl rv2) ⟨key2, rel2⟩
end
end Cl

/-! Carryclaim: how long programs and papers are as texts. -/
namespace Cl
open PySem PySem.Spec PyProof.Rows L2
theorem Pay.pn {d : PyData} (h : Pay d) : Pn 12 1500 d := ⟨h.sh, h.nd, h.dep, h.len⟩
theorem tg_p {n : Nat} {x : Str} (h : x ∈ tags) : Pn n 9 (.str x) := tag_p (by simp [h])
mutual
theorem encS_pn : ∀ s : Stm, (∀ z ∈ allS s, PayS z) → ∃ L, Pn (2 * depS s + 13) L (encS s) ∧ L + 2 ≤ 1600 * (allS s).length
  | .set x e, h => by
    have hp : x ∈ NM ∧ Pay e := h (.set x e) (by simp [allS])
    exact ⟨_, by simp only [encS, depS]; exact Pn.tup (.cons (tg_p (by simp [tags])) (.cons (.str (NM_repr x hp.1)) (.cons hp.2.pn .nil))), by simp [allS]⟩
  | .ask x, h => by
    have hp : x ∈ NM := h (.ask x) (by simp [allS])
    exact ⟨_, by simp only [encS, depS]; exact (Pn.tup (n := 12) (.cons (tg_p (by simp [tags])) (.cons (.str (NM_repr x hp)) .nil))), by simp [allS]⟩
  | .tell e, h => by
    have hp : Pay e := h (.tell e) (by simp [allS])
    exact ⟨_, by simp only [encS, depS]; exact Pn.tup (.cons (tg_p (by simp [tags])) (.cons hp.pn .nil)), by simp [allS]⟩
  | .check e, h => by
    have hp : Pay e := h (.check e) (by simp [allS])
    exact ⟨_, by simp only [encS, depS]; exact Pn.tup (.cons (tg_p (by simp [tags])) (.cons hp.pn .nil)), by simp [allS]⟩
  | .need e, h => by
    have hp : Pay e := h (.need e) (by simp [allS])
    exact ⟨_, by simp only [encS, depS]; exact Pn.tup (.cons (tg_p (by simp [tags])) (.cons hp.pn .nil)), by simp [allS]⟩
  | .ret e, h => by
    have hp : Pay e := h (.ret e) (by simp [allS])
    exact ⟨_, by simp only [encS, depS]; exact Pn.tup (.cons (tg_p (by simp [tags])) (.cons hp.pn .nil)), by simp [allS]⟩
  | .call f vs t, h => by
    have hp : f ∈ PN ∧ Pay (.tuple vs) ∧ ∀ x, t = some x → x ∈ NM := h (.call f vs t) (by simp [allS])
    have ht : Pn 12 8 (optD t) := by
      cases t with
      | none => exact Pn.none.mono (Nat.le_refl _) (by decide)
      | some x => exact .str (NM_repr x (hp.2.2 x rfl))
    exact ⟨_, by simp only [encS, depS]; exact Pn.tup (.cons (tg_p (by simp [tags])) (.cons (.str (PN_repr f hp.1)) (.cons hp.2.1.pn (.cons ht .nil)))), by simp [allS]⟩
  | .loop c b, h => by
    have hp : Pay c := h (.loop c b) (by simp [allS])
    obtain ⟨L, p1, p2⟩ := encL_pn b fun z hz => h z (by simp [allS, hz])
    refine ⟨_, by simp only [encS]; exact (Pn.tup (n := 2 * depL b + 14) (.cons (tg_p (by simp [tags])) (.cons (hp.pn.mono (by omega) (Nat.le_refl _)) (.cons (Pn.tup p1) .nil)))).mono (by simp only [depS]; omega) (Nat.le_refl _), ?_⟩
    simp only [allS, List.length_cons]
    omega
  | .ite c a b, h => by
    have hp : Pay c := h (.ite c a b) (by simp [allS])
    obtain ⟨L, p1, p2⟩ := encL_pn a fun z hz => h z (by simp [allS, hz])
    obtain ⟨M, q1, q2⟩ := encL_pn b fun z hz => h z (by simp [allS, hz])
    refine ⟨_, by simp only [encS]; exact (Pn.tup (n := 2 * max (depL a) (depL b) + 14) (.cons (tg_p (by simp [tags])) (.cons (hp.pn.mono (by omega) (Nat.le_refl _)) (.cons ((Pn.tup p1).mono (by omega) (Nat.le_refl _)) (.cons ((Pn.tup q1).mono (by omega) (Nat.le_refl _)) .nil))))).mono (by simp only [depS]; omega) (Nat.le_refl _), ?_⟩
    simp only [allS, List.length_cons, List.length_append]
    omega
theorem encL_pn : ∀ b : List Stm, (∀ z ∈ allL b, PayS z) → ∃ L, Pa (2 * depL b + 13) L (encL b) ∧ L ≤ 1600 * (allL b).length
  | [], _ => ⟨0, by simp only [encL]; exact Pa.nil, Nat.zero_le _⟩
  | s :: r, h => by
    obtain ⟨L, p1, p2⟩ := encS_pn s fun z hz => h z (by simp [allL, hz])
    obtain ⟨M, q1, q2⟩ := encL_pn r fun z hz => h z (by simp [allL, hz])
    refine ⟨_, by simp only [encL]; exact Pa.cons (p1.mono (by simp only [depL]; omega) (Nat.le_refl _)) (⟨q1.sh, q1.nd, Nat.le_trans q1.dep (by simp only [depL]; omega), q1.len⟩ : Pa (2 * depL (s :: r) + 13) M (encL r)), ?_⟩
    simp only [allL, List.length_append]
    omega
end
theorem Pa.all_le {n M k : Nat} {ds : List PyData} (h : ∀ d ∈ ds, Pn n M d) (hk : ds.length ≤ k) : Pa n (k * (M + 2)) ds := by
  have t := Pa.of_all h
  exact ⟨t.sh, t.nd, t.dep, Nat.le_trans t.len (Nat.mul_le_mul hk (Nat.le_refl _))⟩
theorem pr_pn {gl : List Str} {p : Pr} (w : WfPr gl p) : Pn 24 1441000 (encPr p) := by
  obtain ⟨L, p1, p2⟩ := encL_pn p.body w.pay
  rw [encL_map] at p1
  have hd := w.dep
  have hc := w.cnt
  have q1 : Pa 1 (10 * (8 + 2)) (p.ps.map PyData.str) := Pa.all_le (fun d hd => by obtain ⟨x, hx, rfl⟩ := List.mem_map.mp hd; exact .str (NM_repr x (w.ps x hx))) (by rw [List.length_map]; exact w.plen)
  exact (Pn.tup (n := 2 * depL p.body + 14) (.cons (.str (PN_repr _ w.name)) (.cons ((Pn.tup q1).mono (by omega) (Nat.le_refl _)) (.cons (Pn.tup p1) .nil)))).mono (by omega) (by omega)
theorem pg_pn {g : Pg} (w : WfPg g) : Pn 26 5770000 (encPg g) := by
  have q1 : Pa 1 (10 * (8 + 2)) (g.gl.map PyData.str) := Pa.all_le (fun d hd => by obtain ⟨x, hx, rfl⟩ := List.mem_map.mp hd; exact .str (NM_repr x (w.gl x hx))) (by rw [List.length_map]; exact w.glen)
  have q2 : Pa 24 (4 * (1441000 + 2)) (g.prs.map encPr) := Pa.all_le (fun d hd => by obtain ⟨x, hx, rfl⟩ := List.mem_map.mp hd; exact pr_pn (w.pr x hx)) (by rw [List.length_map]; exact w.len)
  exact (Pn.tup (n := 25) (.cons ((Pn.tup q1).mono (by omega) (Nat.le_refl _)) (.cons (Pn.tup q2) .nil))).mono (by omega) (by omega)
theorem rg_pn {r : Rg} (h : RgOk r) : Pn 1 27 (encRg r) := (Pn.tup (n := 0) (.cons (.int h.n1) (.cons (.int h.n2) (.cons (.int h.n3) .nil)))).mono (by omega) (by omega)
theorem en_pn {e : Ent} (h1 : e.1 ∈ NM) (h2 : RgOk e.2) : Pn 2 42 (encEn e) := (Pn.tup (n := 1) (.cons (.str (NM_repr _ h1)) (.cons (rg_pn h2) .nil))).mono (by omega) (by omega)
theorem st_pn {s : Ste} (h : StOk s) : Pn 3 900 (encSt s) := by
  cases s with
  | none => exact (Pn.none (n := 0)).mono (by omega) (by omega)
  | some l =>
    have q1 : Pa 2 (20 * (42 + 2)) (l.map encEn) := Pa.all_le (fun d hd => by obtain ⟨x, hx, rfl⟩ := List.mem_map.mp hd; exact en_pn (h.ent l rfl x hx).1 (h.ent l rfl x hx).2) (by rw [List.length_map]; exact h.len l rfl)
    exact (Pn.tup q1).mono (by omega) (by omega)
theorem row_pn {r : Row} (h : RowOk r) (ho : PyData.strOk r.pl = true) : Pn 4 1530 (encRow r) := by
  have hr : (PySem.reprText r.pl).length ≤ 602 := by
    have := PySem.StrLaws.reprText_len r.pl fun c hc => by
      unfold PyData.strOk at ho
      rw [← Array.all_toList, List.all_eq_true] at ho
      have := of_decide_eq_true (ho c hc)
      exact Nat.lt_trans this (by decide)
    have := h.pl
    omega
  exact (Pn.tup (n := 3) (.cons (.str (PN_repr _ h.nm)) (.cons (.str hr) (.cons (st_pn h.st) .nil)))).mono (by omega) (by omega)
theorem pap_pn {rs : List Row} (h : ∀ r ∈ rs, RowOk r ∧ PyData.strOk r.pl = true) (hl : rs.length ≤ 3608) : Pn 5 5530000 (encPap rs) := by
  have q1 : Pa 4 (3608 * (1530 + 2)) (rs.map encRow) := Pa.all_le (fun d hd => by obtain ⟨x, hx, rfl⟩ := List.mem_map.mp hd; exact row_pn (h x hx).1 (h x hx).2) (by rw [List.length_map]; exact hl)
  exact (Pn.tup q1).mono (by omega) (by omega)
theorem textFrom_le : ∀ (ts : List Str) (k : Nat) (acc : Str), (PySem.textFrom k acc ts).length ≤ acc.length + PySem.piled ts
  | [], _, acc => by simp [PySem.textFrom]
  | t :: ts, k, acc => by
    have ih := textFrom_le ts (k + 1) (acc ++ (if k > 0 then ", " else "" : String) ++ t)
    have e2 : ((if k > 0 then ", " else "" : String) : Str).length ≤ 2 := by
      split
      · decide +kernel
      · decide +kernel
    rw [ln_app, ln_app] at ih
    rw [PySem.piled_cons]
    show (PySem.textFrom (k + 1) (acc ++ (if k > 0 then ", " else "" : String) ++ t) ts).length ≤ _
    omega
/-- a list of two -/
structure RpOk (d : PyData) : Prop where
  sh : d.showable = true
  nd : d.hasDict = false
  dep : d.depth ≤ 50
  len : d.shown.length ≤ 16777216
theorem pair_rp {g : Pg} {rs : List Row} (w : WfPg g) (h : ∀ r ∈ rs, RowOk r ∧ PyData.strOk r.pl = true) (hl : rs.length ≤ 3608) : RpOk (.list [encPg g, encPap rs]) := by
  have t := Pa.cons (pg_pn w) (Pa.cons ((pap_pn h hl).mono (by omega : 5 ≤ 26) (Nat.le_refl _)) Pa.nil)
  refine ⟨?_, ?_, ?_, ?_⟩
  · simp only [PyData.showable, t.sh]
  · simp only [PyData.hasDict, t.nd]
  · have := t.dep; simp only [PyData.depth]; omega
  · have hp := t.len
    have z : ∀ ts : List Str, PySem.piled ts ≤ 5770000 + 2 + (5530000 + 2 + 0) → (PySem.listText ts).length ≤ 16777216 := fun ts h => by
      unfold PySem.listText
      rw [ln_app]
      have := textFrom_le ts 0 "["
      have e1 : ("[" : Str).length = 1 := by decide +kernel
      have e2 : ("]" : Str).length = 1 := by decide +kernel
      omega
    simp only [PyData.shown]
    exact z _ hp
theorem PapOk.str {g : Pg} {rs : List Row} (h : PapOk g rs) : ∀ r ∈ rs, PyData.strOk r.pl = true := fun r hr => by
  obtain ⟨x, hx, rel⟩ := h.row r hr
  obtain ⟨p, hp, e1, e2, e3⟩ := wrows_mem hx
  rw [rel.pl]
  exact place_strOk e2
theorem zSt_ok {g : Pg} (w : WfPg g) : StOk (zSt g) := by
  refine ⟨fun l e => ?_, fun l e x hx => ?_⟩
  · cases e; rw [List.length_map]; have := w.glen; omega
  · cases e
    obtain ⟨n, hn, rfl⟩ := List.mem_map.mp hx
    exact ⟨w.gl n hn, (by decide : (-10000 : Int) ≤ 0), (by decide : (0 : Int) ≤ 10000), .inl ⟨rfl, rfl⟩⟩
theorem blank_ok {g : Pg} (w : WfPg g) : ∀ r ∈ (prows g.prs).map (mkRow (blkSt g)), RowOk r ∧ PyData.strOk r.pl = true := fun r hr => by
  obtain ⟨x, hx, rfl⟩ := List.mem_map.mp hr
  obtain ⟨p, hp, e1, e2⟩ := prows_mem.mp hx
  have wp := w.pr p hp
  refine ⟨⟨by show x.1 ∈ PN; rw [← e1]; exact wp.name, (place_ok wp.dep wp.cnt e2).1, ?_⟩, place_strOk e2⟩
  show StOk (blkSt g x)
  unfold blkSt
  split
  · exact zSt_ok w
  · refine ⟨fun l e => ?_, fun l e => ?_⟩
    · cases e
    · cases e
end Cl

/-! Carryclaim: the law itself. -/
namespace Cl
open PySem PySem.Spec PyProof.Rows L2
/-- repr of a list of data -/
def rRepr (K : PySem.W.Frag) : List V → Hp → VK → Prop := fun vs H Q => ∃ (a : Addr) (d : PyData), vs = [.ref a] ∧ Dp K H (.ref a) d ∧ RpOk d ∧ Q (.str d.shown) H
theorem cr_repr {X : Cx} (hg : X.A.guards = some []) (hu : X.A.units + 64 < cLine) : CallR X (.builtin "repr") (rRepr X.K) := by
  intro pins s σ H vs us Q I r h
  obtain ⟨a, d, rfl, hd, ok, q⟩ := h
  rw [Vals.ref1 r]
  obtain ⟨as, R⟩ := Dp.reads I d _ (.ref a) hd rfl
  have hz : d.shown.length ≤ sizeLine := by
    have := ok.len
    have e : sizeLine = 16777216 := by decide
    omega
  have hdp := ok.dep
  refine repr_of_reads' R ok.sh (PyData.noDict_hsm ok.nd) hg (by omega) (fun _ _ e => e) (fun h' u tk k => ⟨.str d.shown, H, I.kept k, ⟨u, rfl⟩, q⟩) hz
def spLaw (K : PySem.W.Frag) (pt : Addr) : Sp := fun vs H Q _ => ∃ (a : Addr) (ns : List Int), vs = [.ref a] ∧ SqL K H a (ns.map V.int) ∧ ns.length ≤ 1000 ∧ GxR.TabG H pt ∧ ∀ H', Q (.bl true) H'
section
variable {P : Program} {w : World} {K : PySem.W.Frag} {mg : Str → Option Value} {base : Heap}
abbrev s_law : Stmt := top 57
abbrev N_law : List Str := ["_law_script", "_law_state", "_law_program_here", "_law_k", "_law_paper_here", "_law_kept", "_law_text", "_law_name", "_law_place_here", "_law_found", "_law_line"]
theorem sc_law : FnScope N_law ["_law_script"] (defScope s_law) := ⟨rfl, rfl, rfl, by decide +kernel, rfl, by decide +kernel, by decide +kernel⟩
/-- the defs that the law calls keep their promises -/
structure Cs (P : Program) (w : World) (K : PySem.W.Frag) (mg : Str → Option Value) (base : Heap) (pt : Addr) : Prop where
  prog : ∀ ns, Kn P w K mg base 16 "_law_program" ["_law_state", "_law_script"] (spLprog K ns)
  pap : ∀ ns, Kn P w K mg base 9 "_law_paper" ["_law_state", "_law_script", "_law_program_here"] (spLpap K ns)
  lines : Kn P w K mg base 2 "_law_lines" ["_law_paper_here"] (spLln K)
  blank : Kn P w K mg base 9 "_law_blank" ["_law_program_here"] (spLbl K)
  same : ∀ n, Kn P w K mg base (n + 1) "_law_same" ["_law_actual", "_law_due"] (spSame K n)
  write : Kn P w K mg base 3 "write_paper" ["paper"] (spWrite K)
  read : Kn P w K mg base 11 "read_paper" ["program", "text"] (spRead K pt)
  at_ : Kn P w K mg base 1 "state_at" ["paper", "procedure", "place"] (spStAt K)
  bpap : Kn P w K mg base 9 "blank_paper" ["program"] (spBlank K)
theorem lines_text (rs : List Row) : Txt.join "" (rs.map fun r => lnTx r ++ ("\n":Str)) = ppTx rs := by
  refine TL.ext_tl ?_
  show _ = TL.tl (Txt.join "" (rs.map rwTx))
  rw [tl_join0, tl_join0, List.map_map, List.map_map]
  congr 1
  refine List.map_congr_left fun r _ => ?_
  show TL.tl (lnTx r ++ ("\n":Str)) = TL.tl (rwTx r)
  rw [tl_rwTx, TL.tl_append, tl_nl]
theorem law_body (T : Bl mg) {pt : Addr} (C : Cs P w K mg base pt) {f : Addr} {cdv : Value} {A : Around} {outer : List Env} {s : Shared} {H : Hp} {vs : List V} {Q : VK} {E : XK} (hg : A.guards = some []) (hr : Room 16 (A.deeper (envOfC "law" (defScope s_law) s.heap.objs.size f cdv))) (h : spLaw K pt vs H Q E) :
    ∃ t, PSs (cxOf CX0 P w K mg base N_law "law" (defScope s_law) f cdv A outer s H E).nox (defBody s_law) t ∧ t { nx := fun _ H' => Q .non H', rt := Q } (L2.start N_law vs) H := by
  obtain ⟨sc, ns, rfl, hsc, hns, htab, q⟩ := h
  have hgd : (A.deeper (envOfC "law" (defScope s_law) s.heap.objs.size f cdv)).guards = some [] := hg
  refine ⟨_, (pss_cons (ps_set (i := 1) sc_law.nd rfl (by first | exact Or.inl rfl | exact Or.inr rfl) (pe_lst (pa_cons pe_int (pa_cons pe_int (pa_cons pe_int (pa_cons pe_int pa_nil))))))
    (pss_cons (ps_set (i := 2) sc_law.nd rfl (by first | exact Or.inl rfl | exact Or.inr rfl) (pe_kn (C.prog ns) hr (pa_cons (pv 1) (pa_cons (pv 0) pa_nil))))
    (pss_cons (ps_for PassesOwn.never rfl (pi_range1 (by rfl) T.range (pa_cons pe_int pa_nil)) (pg_name (i := 3) sc_law.nd rfl (by first | exact Or.inl rfl | exact Or.inr rfl)) (pss_cons (ps_set (i := 4) sc_law.nd rfl (by first | exact Or.inl rfl | exact Or.inr rfl) (pe_kn (C.pap ns) hr (pa_cons (pv 1) (pa_cons (pv 0) (pa_cons (pv 2) pa_nil)))))
      (pss_cons (ps_set (i := 5) sc_law.nd rfl (by first | exact Or.inl rfl | exact Or.inr rfl) (pe_callB (cr_repr hgd hr.units) (by rfl) T.repr (by decide +kernel) (pa_cons (pe_lst (pa_cons (pv 2) (pa_cons (pv 4) pa_nil))) pa_nil)))
      (pss_cons (ps_set (i := 6) sc_law.nd rfl (by first | exact Or.inl rfl | exact Or.inr rfl) (pe_join pe_str (pe_lc (own := [("_law_line", 10)]) (g := gName 10) (tt := tYes) rfl sc_law.nd (pi_list (pe_kn C.lines hr (pa_cons (pv 4) pa_nil))) (blkOk_by (own := [("_law_line", 10)]) (N := N_law) (sc := defScope s_law) (by decide +kernel)) (fun _ _ _ _ _ => (pg_name (i := 10) sc_law.nd rfl (by first | exact Or.inl rfl | exact Or.inr rfl))) (fun _ _ _ _ _ => pts_nil) (fun _ _ _ _ _ => (pe_op op_add_str (pv 10) pe_str)))))
      (pss_cons (ps_if (PW.pt (pw_or (pt_not (pt_val (pe_kn (C.same 0) hr (pa_cons (pe_kn C.write hr (pa_cons (pv 4) pa_nil)) (pa_cons (pv 6) pa_nil))))) (pw_or1 (pt_not (pt_val (pe_kn (C.same 5) hr (pa_cons (pe_kn C.read hr (pa_cons (pv 2) (pa_cons (pv 6) pa_nil))) (pa_cons (pv 4) pa_nil)))))))) (pss_one (ps_ret pe_bl)) pss_nil)
      (pss_cons (ps_for PassesOwn.never rfl (pi_tup (pv 4)) (pg_tup rfl (pgs_cons (pg_name (i := 7) sc_law.nd rfl (by first | exact Or.inl rfl | exact Or.inr rfl)) (pgs_cons (pg_name (i := 8) sc_law.nd rfl (by first | exact Or.inl rfl | exact Or.inr rfl)) (pgs_cons (pg_name (i := 9) sc_law.nd rfl (by first | exact Or.inl rfl | exact Or.inr rfl)) pgs_nil)))) (pss_one (ps_if (pt_not (pt_val (pe_kn (C.same 3) hr (pa_cons (pe_kn C.at_ hr (pa_cons (pv 4) (pa_cons (pv 7) (pa_cons (pv 8) pa_nil)))) (pa_cons (pv 9) pa_nil))))) (pss_one (ps_ret pe_bl)) pss_nil)))
      (pss_one (ps_if (pt_cmpR op_ne (pe_callB (cr_repr hgd hr.units) (by rfl) T.repr (by decide +kernel) (pa_cons (pe_lst (pa_cons (pv 2) (pa_cons (pv 4) pa_nil))) pa_nil)) (pv 5) (nomark _)) (pss_one (ps_ret pe_bl)) pss_nil))))))))
    (pss_one (ps_ret (pe_kn (C.same 5) hr (pa_cons (pe_kn C.bpap hr (pa_cons (pv 2) pa_nil)) (pa_cons (pe_kn C.blank hr (pa_cons (pv 2) pa_nil)) pa_nil)))))))), ?_⟩
  refine ⟨small_le (by simp), fun st hst => ?_⟩
  have k0 := (Kp.refl (m := none) H).new (o := .lst [.int 0, .int 0, .int 1, .int 0]) hst
  have hn0 : some sc ≠ some st ∨ ∀ H', SqL K H' sc (ns.map V.int) := by
    rcases hsc with (h | ⟨o, h⟩) | h
    · exact .inl fun e => by cases e; rw [h] at hst; cases hst
    · exact .inl fun e => by cases e; rw [h] at hst; cases hst
    · exact .inr fun H' => .inr h
  have G0 : Gn K ns st sc (upd H st (.lst [.int 0, .int 0, .int 1, .int 0])) := ⟨⟨0, 0, 1, 0, upd_same, Int.le_refl _⟩, k0.lst hsc, hn0, hns⟩
  have t0 := TabG.keep k0 htab
  have nst : some pt ≠ some st := fun e => by
    cases e
    obtain ⟨_, h2, _⟩ := htab
    rw [h2] at hst
    cases hst
  have tk : ∀ {H1 H2 : Hp}, Kp (some st) H1 H2 → GxR.TabG H1 pt → GxR.TabG H2 pt := fun k ⟨ps, a, b⟩ => ⟨ps, k.of a nst, b⟩
  have gk : ∀ {H1 H2 : Hp}, Kp (some pt) H1 H2 → Gn K ns st sc H1 → some sc ≠ some pt ∨ (∀ H', SqL K H' sc (ns.map V.int)) → Gn K ns st sc H2 := fun k G hne => by
    obtain ⟨⟨a, b, c, d, h1, h2⟩, h3, h4, h5⟩ := G
    exact ⟨⟨a, b, c, d, k.of h1 fun e => nst e.symm, h2⟩, hne.elim (fun n => k.lst h3 n) (fun f => f _), h4, h5⟩
  have hnp : some sc ≠ some pt ∨ ∀ H', SqL K H' sc (ns.map V.int) := by
    obtain ⟨ps, hp, _⟩ := htab
    rcases hsc with (h | ⟨o, h⟩) | h
    · exact .inl fun e => by cases e; rw [h] at hp; cases hp
    · exact .inl fun e => by cases e; rw [h] at hp; cases hp
    · exact .inr fun H' => .inr h
  refine ⟨_, rfl, _, rfl, st, sc, rfl, G0, fun vg g H1 k1 G1 rg wf => ?_⟩
  have t1 := tk k1 t0
  refine ⟨2, rfl, by decide, by decide, for_range (fun i σ' H' => (∃ y3 y4 y5 y6 y7 y8 y9 y10, σ' = [some (.ref sc), some (.ref st), some vg, y3, y4, y5, y6, y7, y8, y9, y10]) ∧ Gn K ns st sc H' ∧ GxR.TabG H' pt ∧ TLe H1 H')
    ⟨⟨_, _, _, _, _, _, _, _, rfl⟩, G1, t1, TLe.refl _⟩ ?_ ?_⟩
  · rintro i σ' H2 hi ⟨⟨y3, y4, y5, y6, y7, y8, y9, y10, rfl⟩, G2, t2, e2⟩
    have rg2 := rg.mono e2
    refine ⟨_, rfl, _, rfl, _, rfl, st, sc, vg, g, rfl, G2, rg2, wf, fun vp rs H3 k3 G3 rp pok => ?_⟩
    have t3 := tk k3 t2
    have rg3 := rg2.mono k3.tle
    have rok := pok.ok wf
    have sok := pok.str
    have lrs := pok.len wf
    have rs2 : ∀ r ∈ rs, RowOk r ∧ PyData.strOk r.pl = true := fun r hr => ⟨(rok r hr).1, sok r hr⟩
    have RP := pair_rp wf rs2 lrs
    have ppn := pap_pn rs2 lrs
    -- kept = repr([..])
    refine ⟨_, rfl, _, rfl, small_le (by simp), fun l4 n4 => ?_⟩
    have k4 := (Kp.refl (m := none) H3).new (o := .lst [vg, vp]) n4
    refine ⟨l4, .list [encPg g, encPap rs], rfl, .lst (.inl (.inl upd_same)) (.cons (rg3.mono k4.tle).dp (.cons (rp.mono k4.tle).dp .nil)), RP, ?_⟩
    have rp4 := rp.mono k4.tle
    -- text
    refine ⟨⟨_, rfl⟩, _, rfl, vp, rs, rfl, rp4, by omega, fun r hr => (rok r hr).1, fun o5 H5 k5 n5 h5 => ?_⟩
    refine ⟨o5, rfl, ⟨_, .inl (.inl h5)⟩, fun D6 n6 => lc_dl (m := none) (fun r => PyData.str (lnTx r)) (fun r => .str (lnTx r ++ ("\n":Str))) rs (.inl (.inl h5)) (by simp) (by have := RpA.strs (K := K) (H := H5) (rs.map lnTx); rw [show (rs.map lnTx).map PyData.str = rs.map (fun r => PyData.str (lnTx r)) by rw [List.map_map]; rfl] at this; exact this) n6 (.inr rfl) (small_lt (by omega)) ?_ ?_⟩
    · intro r y H' hr k ry R hR
      rw [ry.str_inv]
      have := (lnTx_len (rok r hr).1).1
      have e1 : ("\n" : Str).length = 1 := by decide +kernel
      exact ⟨rfl, _, rfl, _, _, rfl, rfl, small_le (by omega), hR _ _ (Kp.refl _) (.str _)⟩
    intro H6 k6 ls6
    obtain ⟨vs6, h6, r6⟩ := ls6
    have e6 : vs6 = (rs.map fun r => lnTx r ++ ("\n":Str)).map V.str := RpA.strs_eq (xs := rs.map fun r => lnTx r ++ ("\n":Str)) (by rw [List.map_map]; exact r6)
    subst e6
    refine ⟨"", D6, _, rfl, rfl, .inl (.inl (.inl h6)), ?_, ?_⟩
    · have h3 : ((rs.map fun r => lnTx r ++ ("\n":Str)).map (·.length)).sum ≤ (rs.map fun r => lnTx r ++ ("\n":Str)).length * 701 := sum_le fun x hx => by
        obtain ⟨r, hr, rfl⟩ := List.mem_map.mp hx
        have := (lnTx_len (rok r hr).1).1
        have e1 : ("\n" : Str).length = 1 := by decide +kernel
        rw [ln_app]
        omega
      rw [List.length_map] at h3 ⊢
      have h4 : ("":Str).length = 0 := by decide +kernel
      rw [h4]
      omega
    rw [lines_text]
    have k46 := (k4.trans k5).trans k6
    have rp6 := rp.mono k46.tle
    have rg6 := rg3.mono k46.tle
    have t6 := TabG.keep k46 t3
    have G6 := G3.keep k46
    -- write
    refine ⟨_, rfl, vp, rs, rfl, rp6, by omega, fun r hr => (rok r hr).1, fun H7 k7 => ?_⟩
    refine ⟨_, rfl, .str (ppTx rs), .str (ppTx rs), .str (ppTx rs), rfl, .str _, .str _, by simp [PyData.depth], .inr ⟨_, rfl⟩, fun H8 k8 => ⟨_, rfl, ?_⟩⟩
    have k68 := k7.trans k8
    -- read
    refine ⟨_, rfl, _, rfl, vg, g, rs, rfl, rg6.mono k68.tle, wf, pok.key, rok, pok.names wf, TabG.keep k68 t6, fun u H9 k9 t9 r9 => ?_⟩
    have rp9 := (rp6.mono k68.tle).mono k9.tle
    refine ⟨_, rfl, u, vp, encPap rs, rfl, r9, rp9, ppn.dep, .inl (by have := ppn.len; omega), fun H10 k10 => ⟨_, rfl, ?_⟩⟩
    have G10 := (gk k9 (G6.keep k68) hnp).keep k10
    have t10 := TabG.keep k10 t9
    have e10 : TLe H1 H10 := (((e2.trans k3.tle).trans k46.tle).trans k68.tle).trans (k9.tle.trans k10.tle)
    have rp10 := rp9.mono k10.tle
    have rg10 := rg.mono e10
    -- state_at
    have rp10' := rp10
    obtain ⟨pa, wp, rfl, hpa, rpa⟩ := rp10.tup_inv
    have hnd : (rs.map fun r => (r.nm, r.pl)).Nodup := by rw [pok.key]; exact prows_nd wf.nd
    refine ⟨_, rfl, pa, rfl, ⟨_, hpa⟩, for_dt encRow rs hpa rpa (fun l σ' H' => (∃ y7 y8 y9 y10, σ' = [some (.ref sc), some (.ref st), some vg, some (.int ((0 : Int) + ((i : Nat) : Int))), some (.ref pa), some (.str (PyData.list [encPg g, encPap rs]).shown), some (.str (ppTx rs)), y7, y8, y9, y10]) ∧ Kp none H10 H')
      ⟨⟨_, _, _, _, rfl⟩, Kp.refl _⟩ (fun l σ' H' z => z.2.tle) ?_ ?_⟩
    · rintro pre r post y σ' H11 er ry ⟨⟨z7, z8, z9, z10, rfl⟩, k11⟩
      have hrm : r ∈ rs := by rw [er]; simp
      obtain ⟨c, v1, v2, v3, rfl, hc, s1, s2, s3⟩ := ry.t3
      rw [s1.str_inv, s2.str_inv] at hc
      have spn := st_pn (rok r hrm).1.st
      refine ⟨c, _, rfl, hc, rfl, _, _, rfl, _, _, rfl, _, _, rfl, rfl, ?_⟩
      refine ⟨_, rfl, _, rfl, _, rfl, .ref pa, rs, r, rfl, rp10'.mono k11.tle, hnd, hrm, fun u2 H12 k12 r12 => ?_⟩
      refine ⟨_, rfl, u2, v3, encSt r.st, rfl, r12, s3.mono k12.tle, spn.dep, .inl (by have := spn.len; omega), fun H13 k13 => ⟨_, rfl, ?_⟩⟩
      exact ⟨⟨_, _, _, _, rfl⟩, (k11.trans k12).trans k13⟩
    · rintro σ' H11 ⟨⟨z7, z8, z9, z10, rfl⟩, k11⟩
      refine ⟨_, rfl, _, rfl, small_le (by simp), fun l12 n12 => ?_⟩
      have k12 := (Kp.refl (m := none) H11).new (o := .lst [vg, .ref pa]) n12
      have kL := k11.trans k12
      refine ⟨l12, .list [encPg g, encPap rs], rfl, .lst (.inl (.inl upd_same)) (.cons (rg10.mono kL.tle).dp (.cons (rp10'.mono kL.tle).dp .nil)), RP, _, rfl, rfl, _, rfl, ?_⟩
      refine ite2 (fun h => absurd h (by simp)) (fun _ => ?_)
      exact ⟨⟨_, _, _, _, _, _, _, _, rfl⟩, G10.keep kL, TabG.keep kL t10, e10.trans kL.tle⟩
  · rintro σ' H2 ⟨⟨y3, y4, y5, y6, y7, y8, y9, y10, rfl⟩, G2, t2, e2⟩
    have rg2 := rg.mono e2
    have bpn := pap_pn (blank_ok wf) (by rw [List.length_map]; exact wf.rows)
    refine ⟨_, rfl, vg, g, rfl, rg2, wf, fun u H3 k3 r3 => ⟨_, rfl, vg, g, rfl, rg2.mono k3.tle, wf, fun u4 H4 k4 r4 => ?_⟩⟩
    exact ⟨u, u4, _, rfl, r3.mono k4.tle, r4, bpn.dep, .inl (by have := bpn.len; omega), fun H5 k5 => q H5⟩
end
end Cl

/-! Carryclaim: the end, at the claim's own caller (its guards are known, so repr is). -/
namespace Cl
open PySem PySem.Spec PyProof.Rows L2
section
variable {P : Program} {w : World} {K : PySem.W.Frag} {mg mb : Str → Option Value} {base : Heap} {pt : Addr}
/-- the call of the law, where nothing is under guard -/
theorem law_run {f : Addr} {fd : FuncData} (F : Fun K "law" "law" s_law f fd) (T : Bl mg) (C : Cs P w K mg base pt) {A : Around} {outer : List Env} {s : Shared} {H : Hp} {ar : Args} {us : List Value} {vs : List V} {Q : VK} {E : XK}
    (hr : Room 17 A) (hg : A.guards = some []) (e0 : Env0 P w K mg base A outer s H) (bd : BindsTo s fd ar ((["_law_script"] : List Str).zip us)) (rv : Vals vs us) (hsp : spLaw K pt vs H Q E) :
    codeAny (model P w) A (.call (.ref f) ar) (CR CX0 outer P w H s Q E) s := by
  have one : vs.length = (["_law_script"] : List Str).length := by
    obtain ⟨_, _, rfl, _⟩ := hsp
    rfl
  obtain ⟨oc, od, kV, dc, pm, an, cdv, ct, osl, rfl, lk, hcd⟩ := F.ex
  have inK := PySem.W.Frag.In.keeps e0.mod.kin fun b o e => (e0.bs b o e).1
  have noLim := e0.mod.nolimit.keeps fun b o e => (e0.bs b o e).1
  have kinds : ∀ y ∈ (["_law_script"] : List Str).zip us, (defScope s_law).names.lookup y.1 = some .local ∨ ((defScope s_law).names.lookup y.1 = some .cell ∧ ((cellsFrom (s.heap.objs.size + 1) (defScope s_law).names []).lookup y.1).isSome = true) := by
    intro z hz
    have hz1 : z.1 ∈ (["_law_script"] : List Str) := (List.of_mem_zip (a := z.1) (b := z.2) hz).1
    exact (sc_law.par z.1 hz1).elim .inl fun c => .inr ⟨c, PySem.W.cellsFrom_some _ _ _ (.inl c)⟩
  refine codeAny_call_function hr.depth (inK _ _ lk) rfl sc_law.co sc_law.gen rfl (PySem.W.codeRec_of inK hcd) (bd _ _ _ _ (wpAny_newFunctionEnv_cells sc_law.kind kinds fun ev hev s1 hx => ?_))
  subst hev
  refine ⟨noLim.keeps hx.toInCall.keep, codeAny_func ?_⟩
  obtain ⟨tm, hps, hrd⟩ := law_body (f := f) (cdv := cdv) (A := A) (outer := outer) (s := s) (H := H) (Q := Q) (E := E) T C hg (hr.deeper _) hsp
  have inv : Inv (cxOf CX0 P w K mg base N_law "law" (defScope s_law) f cdv A outer s H E) [] (L2.start N_law vs) H s1 := inv_start sc_law hr.hd e0 one rv hx
  refine wpAny_mono (hps.nox.run [] s1 (L2.start N_law vs) H _ inv hrd) (fun flow s2 hflow => ?_) fun x s2 hx2 => hx2
  match flow, hflow with
  | .ret u, ⟨v, _, H2, J, hv, hq⟩ => exact ⟨v, H2, J.os, J.bare, J.base, J.hok, hv, hq⟩
  | .next, ⟨_, H2, J, hq⟩ => exact ⟨V.non, H2, J.os, J.bare, J.base, J.hok, rfl, hq⟩
  | .brk, ⟨_, _, _, hq⟩ => exact hq.elim
  | .cont, ⟨_, _, _, hq⟩ => exact hq.elim
end
/-- from the law's call at a base without the script and the table to the call in the head's heap -/
theorem law_end {P : Program} {w : World} {K : PySem.W.Frag} {mg mb : Str → Option Value} {fa a c pt : Addr} {s1 : Shared} {vs : List Value} {ns : List Int} (inK : K.In s1.heap) (hglob : s1.heap.Ns mainGlobals mg) (hbns : s1.heap.Ns builtinsNs mb)
    (hboot : ∀ x : Str, x ≠ "__name__" → mb x = bootBuiltins x) (noLim : s1.heap.NoLimit) (noGen : s1.gens = #[]) (hpt : s1.heap.get? pt = some { cls := .none, data := .fields #[] }) (kpt : K.lookup pt = none) (hcode : PySem.W.CodeHd s1.heap c pt)
    (hbm : ∃ (bm : Addr) (ob : Obj), mg "__builtins__" = some (.ref bm) ∧ bm ≠ builtinsNs ∧ s1.heap.get? bm = some ob ∧ ob.cls = .type "module" ∧ ob.dict = some builtinsNs ∧ ob.data = .plain)
    (hscr : s1.heap.get? a = some { cls := .type "list", data := .seq vs.toArray }) (areInts : IntsAre vs ns) (short : ns.length ≤ sizeLine)
    (R : ∀ (base : Heap) (H : Hp), K.In base → base.Ns mainGlobals mg → GxR.TabB base mg c pt → Env0 P w K mg base callerA [] s1 H → H pt = some (.tbl #[]) → SqL K H a (ns.map V.int) →
      codeAny (model P w) callerA (.call (.ref fa) ⟨[.ref a], []⟩) (CR CX0 [] P w H s1 (fun v _ => v = .bl true) fun _ _ _ => False) s1) :
    codeAny (model P w) callerA (.call (.ref fa) ⟨[.ref a], []⟩) (fun r s' => r = .ok (.ret (.bool true)) ∧ OldK s1.heap s'.heap ∧ s'.os = s1.os ∧ AllBare s'.gens) s1 := by
  have vrel := vals_ints areInts
  have vlen := areInts.length
  have apt : a ≠ pt := fun e => by
    rw [e, hpt] at hscr
    have := congrArg Obj.data (Option.some.inj hscr)
    cases this
  -- for an abstract heap that holds the table, and at most the script
  have main : ∀ H : Hp, H pt = some (.tbl #[]) → (∀ b, b ≠ pt → H b = none ∨ (b = a ∧ K.lookup a = none ∧ ∃ o, H b = some (.frz o (.lst (ns.map V.int))))) → SqL K H a (ns.map V.int) → HOk P w H s1.heap →
      codeAny (model P w) callerA (.call (.ref fa) ⟨[.ref a], []⟩) (fun r s' => r = .ok (.ret (.bool true)) ∧ OldK s1.heap s'.heap ∧ s'.os = s1.os ∧ AllBare s'.gens) s1 := by
    intro H Hpt Hre Hsq Hok
    have unt : ∀ {b : Addr} {o : Obj}, s1.heap.get? b = some o → o.data ≠ .fields #[] → o.data ≠ .seq vs.toArray → H b = none := by
      intro b o e d1 d2
      by_cases hb : b = pt
      · rw [hb, hpt] at e
        exact absurd (congrArg Obj.data (Option.some.inj e)).symm d1
      · rcases Hre b hb with z | ⟨z, _⟩
        · exact z
        · rw [z, hscr] at e
          exact absurd (congrArg Obj.data (Option.some.inj e)).symm d2
    have inB : ∀ {b : Addr} {o : Obj}, s1.heap.get? b = some o → o.data ≠ .fields #[] → o.data ≠ .seq vs.toArray → (hidT s1.heap H).get? b = some o := fun e d1 d2 => hidT_get e (unt e d1 d2)
    have nsB : ∀ {b : Addr} {m : Str → Option Value}, s1.heap.Ns b m → (hidT s1.heap H).Ns b m := fun ⟨o, es, ep, e, d, z⟩ =>
      ⟨o, es, ep, inB e (by rw [d]; intro q; cases q) (by rw [d]; intro q; cases q), d, z⟩
    have knB : K.In (hidT s1.heap H) := fun b o e => by
      refine hidT_get (inK b o e) ?_
      by_cases hb : b = pt
      · rw [hb, kpt] at e; cases e
      · rcases Hre b hb with z | ⟨z, ka, _⟩
        · exact z
        · rw [z, ka] at e; cases e
    have gptne : mainGlobals ≠ pt := fun z => by
      obtain ⟨o, es, ep, e, d, _⟩ := hglob
      rw [z, hpt] at e
      cases e
      cases d
    have tabB : GxR.TabB (hidT s1.heap H) mg c pt := by
      refine ⟨?_, ?_, gptne⟩
      · obtain ⟨o, us, file, tf, fl, tg, iF, tx, tt, e1, x1, x2, x3, x4⟩ := hcode
        refine ⟨o, us, file, tf, fl, tg, iF, tx, tt, inB e1 (fun q => ?_) (fun q => ?_), x1, x2, x3, x4⟩
        · rw [x2] at q
          cases q
          simp at x3
        · rw [x2] at q
          cases q
      · obtain ⟨bm, ob, y1, y2, y3, y4, y5, y6⟩ := hbm
        refine ⟨bm, ob, y1, y2, fun q => ?_, fun q => ?_, inB y3 (by rw [y6]; intro q; cases q) (by rw [y6]; intro q; cases q), y4, y5, y6⟩
        · obtain ⟨o, es, ep, e, d, _⟩ := hglob
          rw [q, e] at y3
          cases y3
          rw [d] at y6
          cases y6
        · rw [q, hpt] at y3
          cases y3
          cases y6
    have modB : L2.Mod K mg (hidT s1.heap H) := by
      refine ⟨knB, nsB hglob, ⟨mb, nsB hbns, hboot⟩, ?_⟩
      obtain ⟨mc, z1, z2⟩ := noLim
      exact ⟨mc, nsB z1, z2⟩
    have env : Env0 P w K mg (hidT s1.heap H) callerA [] s1 H := ⟨rfl, modB, fun b o e => of_hidT e, Nat.le_of_eq (hidT_size _ _), trivial, fun b hb => (List.not_mem_nil (show b ∈ ([] : List Addr) from hb)).elim, Hok, AllBare.of_eq noGen⟩
    refine codeAny_mono (R _ H knB (nsB hglob) tabB env Hpt Hsq) fun res s2 hres => ?_
    match res, hres with
    | .ok (.ret u), ⟨v, H2, hos, hbare, hun, hok2, hrel, hv⟩ =>
      obtain rfl : v = .bl true := hv
      obtain rfl : u = Value.bool true := hrel
      have keep : ∀ b o, b ≠ pt → s1.heap.get? b = some o → s2.heap.get? b = some o := by
        intro b o hb e
        rcases Hre b hb with z | ⟨_, _, ob, z⟩
        · exact hun.keep b o e z (fun q => by cases q) (by simp)
        · obtain ⟨g1, _⟩ := Hok b _ z
          obtain ⟨g2, _⟩ := hok2 b _ (hun.frzs b ob _ z)
          rw [e] at g1
          cases g1
          exact g2
      obtain ⟨more, hm⟩ := hun.tbls pt #[] Hpt
      have grown := hok2 pt _ hm
      refine ⟨rfl, ⟨fun b o e => ?_, fun b o e => ?_⟩, hos, hbare⟩
      · by_cases hb : b = pt
        · subst hb
          rw [hpt] at e
          cases e
          exact .inr (.inl ⟨(hcode.tab hpt).isCodeTable, rfl, #[], more, rfl, by rw [Array.empty_append] at grown ⊢; exact grown⟩)
        · exact .inl (keep b o hb e)
      · by_cases hb : b = pt
        · exact ⟨_, by rw [hb]; exact grown⟩
        · exact ⟨o, keep b o hb e⟩
    | .ok .next, q => exact False.elim q
    | .ok .brk, q => exact False.elim q
    | .ok .cont, q => exact False.elim q
    | .error x, q => exact False.elim q
  cases hk : K.lookup a with
  | some o =>
    have e := inK a o hk
    rw [hscr] at e
    cases e
    refine main (fun b => if b = pt then some (.tbl #[]) else none) (if_pos rfl) (fun b hb => .inl (if_neg hb)) (.inr ⟨_, vs.toArray, _, hk, rfl, rfl, rfl, by rw [List.size_toArray, vlen]; exact short, by simpa using vrel⟩) fun b u z => ?_
    by_cases hb : b = pt
    · have z := (if_pos hb).symm.trans z
      cases z
      rw [hb]
      exact hpt
    · have z := (if_neg hb).symm.trans z
      cases z
  | none =>
    refine main (fun b => if b = pt then some (.tbl #[]) else if b = a then some (.frz { cls := .type "list", data := .seq vs.toArray } (.lst (ns.map V.int))) else none) (if_pos rfl) (fun b hb => ?_) (.inl (.inr ⟨{ cls := .type "list", data := .seq vs.toArray }, (if_neg apt).trans (if_pos rfl)⟩)) fun b u z => ?_
    · by_cases hba : b = a
      · exact .inr ⟨hba, hk, _, (if_neg hb).trans (if_pos hba)⟩
      · exact .inl ((if_neg hb).trans (if_neg hba))
    · by_cases hb : b = pt
      · have z := (if_pos hb).symm.trans z
        cases z
        rw [hb]
        exact hpt
      · have z1 := (if_neg hb).symm.trans z
        by_cases hba : b = a
        · have z2 := (if_pos hba).symm.trans z1
          cases z2
          rw [hba]
          exact ⟨hscr, by rw [List.length_map]; exact short, vs, _, vrel, hscr⟩
        · have z2 := (if_neg hba).symm.trans z1
          cases z2
end Cl

/-! Carryclaim: all defs together; the law's end. -/
namespace Cl
open PySem PySem.Spec PyProof.Rows L2
/-- the defs of the text -/
structure Ds (K : PySem.W.Frag) (mg : Str → Option Value) (c : Addr) : Prop where
  d_procedure_of : Df K mg "procedure_of" s_procedure_of ["program", "name"]
  d_blocks_of : Df K mg "blocks_of" s_blocks_of ["statement"]
  d_all_statements : Df K mg "all_statements" s_all_statements ["block"]
  d_target_of : Df K mg "target_of" s_target_of ["statement"]
  d_parameters : Df K mg "parameters" s_parameters ["program", "name"]
  d_local_names : Df K mg "local_names" s_local_names ["program", "name"]
  d_locals_of : Df K mg "locals_of" s_locals_of ["global_names", "names", "block"]
  d_variables : Df K mg "variables" s_variables ["program", "name"]
  d_path_text : Df K mg "path_text" s_path_text ["path"]
  d_block_paths : Df K mg "block_paths" s_block_paths ["block", "start"]
  d_places : Df K mg "places" s_places ["program", "name"]
  d_all_places : Df K mg "all_places" s_all_places ["program"]
  d_state_at : Df K mg "state_at" s_state_at ["paper", "procedure", "place"]
  d_paper_of : Df K mg "paper_of" s_paper_of ["program", "states"]
  d_state_names : Df K mg "state_names" s_state_names ["program", "procedure", "place"]
  d_zero_entry : Df K mg "zero_entry" s_zero_entry ["program"]
  d_blank_paper : Df K mg "blank_paper" s_blank_paper ["program"]
  d_write_paper : Df K mg "write_paper" s_write_paper ["paper"]
  d_state_text : Df K mg "state_text" s_state_text ["state"]
  d_range_text : Df K mg "range_text" s_range_text ["found"]
  d_read_paper : Df K mg "read_paper" s_read_paper ["program", "text"]
  d_read_state : Df K mg "read_state" s_read_state ["program", "procedure", "place", "text", "line"]
  d_read_range : Df K mg "read_range" s_read_range ["text"]
  d_read_number : DfC K mg "read_number" s_read_number ["text"] c
  d_law_next : Df K mg "_law_next" s_law_next ["_law_state", "_law_script", "_law_many"]
  d_law_same : Df K mg "_law_same" s_law_same ["_law_actual", "_law_due"]
  d_law_number : Df K mg "_law_number" s_law_number ["_law_state", "_law_script"]
  d_law_expression : Df K mg "_law_expression" s_law_expression ["_law_state", "_law_script", "_law_names", "_law_depth"]
  d_law_comparison : Df K mg "_law_comparison" s_law_comparison ["_law_state", "_law_script", "_law_names"]
  d_law_condition : Df K mg "_law_condition" s_law_condition ["_law_state", "_law_script", "_law_names"]
  d_law_counting : Df K mg "_law_counting" s_law_counting ["_law_state", "_law_script", "_law_world", "_law_depth"]
  d_law_statement : Df K mg "_law_statement" s_law_statement ["_law_state", "_law_script", "_law_world", "_law_depth"]
  d_law_block : Df K mg "_law_block" s_law_block ["_law_state", "_law_script", "_law_world", "_law_depth"]
  d_law_procedure : Df K mg "_law_procedure" s_law_procedure ["_law_state", "_law_script", "_law_shared", "_law_row", "_law_procedures"]
  d_law_program : Df K mg "_law_program" s_law_program ["_law_state", "_law_script"]
  d_law_blocks : Df K mg "_law_blocks" s_law_blocks ["_law_statement_here"]
  d_law_all : Df K mg "_law_all" s_law_all ["_law_block_here"]
  d_law_targets : Df K mg "_law_targets" s_law_targets ["_law_statement_here"]
  d_law_locals : Df K mg "_law_locals" s_law_locals ["_law_shared", "_law_procedure_here"]
  d_law_place : Df K mg "_law_place" s_law_place ["_law_path"]
  d_law_rows : Df K mg "_law_rows" s_law_rows ["_law_block_here", "_law_start", "_law_behind"]
  d_law_range : Df K mg "_law_range" s_law_range ["_law_state", "_law_script", "_law_wide"]
  d_law_place_names : Df K mg "_law_place_names" s_law_place_names ["_law_program_here", "_law_procedure_here", "_law_place_here"]
  d_law_wanted : Df K mg "_law_wanted" s_law_wanted ["_law_program_here"]
  d_law_paper : Df K mg "_law_paper" s_law_paper ["_law_state", "_law_script", "_law_program_here"]
  d_law_range_text : Df K mg "_law_range_text" s_law_range_text ["_law_one"]
  d_law_lines : Df K mg "_law_lines" s_law_lines ["_law_paper_here"]
  d_law_blank : Df K mg "_law_blank" s_law_blank ["_law_program_here"]
theorem cs_of {P : Program} {w : World} {K : PySem.W.Frag} {mg : Str → Option Value} {base : Heap} {c pt za : Addr} (T : Bl mg) (D : Ds K mg c) (TB : GxR.TabB base mg c pt) (hza : mg "ZERO" = some (.ref za)) (hzs : ∀ H, SqT K H za [.int 0, .int 0, .int 0]) : Cs P w K mg base pt := by
  have g1 := ok_procedure_of (P := P) (w := w) (base := base) D.d_procedure_of
  have g2 := ok_blocks_of (P := P) (w := w) (base := base) D.d_blocks_of
  have g3 := ok_target_of (P := P) (w := w) (base := base) D.d_target_of
  have g4 := ok_parameters D.d_parameters g1
  have g5 := ok_all D.d_all_statements g2 3
  have g6 := ok_locals_of T D.d_locals_of g5 g3
  have g7 := ok_local_names D.d_local_names g1 g6
  have g8 := ok_variables D.d_variables g7
  have g9 := ok_path_text (P := P) (w := w) (base := base) T D.d_path_text
  have g10 := ok_paths T D.d_block_paths g2 3
  have g11 := ok_places T D.d_places g1 g10 g9
  have g12 := ok_all_places D.d_all_places g11
  have g13 := ok_state_at (P := P) (w := w) (base := base) D.d_state_at
  have g14 := ok_state_names D.d_state_names g4 g8
  have g15 := ok_zero_entry (P := P) (w := w) (base := base) T hza hzs D.d_zero_entry
  have g16 := ok_paper_of T D.d_paper_of g12
  have g17 := ok_blank_paper D.d_blank_paper g12 g15 g16
  have g18 := ok_range_text (P := P) (w := w) (base := base) T D.d_range_text
  have g19 := ok_state_text D.d_state_text g18
  have g20 := ok_write_paper D.d_write_paper g19
  have g21 := ok_read_number (P := P) (w := w) T TB D.d_read_number
  have g22 := ok_read_range T D.d_read_range g21
  have g23 := ok_read_state T D.d_read_state g14 g22
  have g24 := ok_read_paper T D.d_read_paper g12 g23
  have b1 := ok_law_blocks (P := P) (w := w) (base := base) D.d_law_blocks
  have b2 := ok_law_targets (P := P) (w := w) (base := base) D.d_law_targets
  have b3 := ok_lall D.d_law_all b1 3
  have b4 := ok_law_locals T D.d_law_locals b3 b2
  have b5 := ok_law_place (P := P) (w := w) (base := base) T D.d_law_place
  have b6 := ok_lrows T D.d_law_rows b1 b5 3
  have b7 := ok_law_place_names T D.d_law_place_names b4
  have b8 := ok_law_wanted T D.d_law_wanted b6 b7
  have b9 := ok_law_range_text (P := P) (w := w) (base := base) T D.d_law_range_text
  have b10 := ok_law_lines D.d_law_lines b9
  have b11 := ok_law_blank T D.d_law_blank b8
  refine ⟨fun ns => ?_, fun ns => ?_, b10, b11, ok_same T D.d_law_same, g20, g24, g13, g17⟩
  · have n1 := ok_law_next (P := P) (w := w) (base := base) (ns := ns) T D.d_law_next
    have n2 := ok_law_number D.d_law_number n1
    have n3 := ok_blks (P := P) (w := w) (base := base) (ns := ns) T D.d_law_next D.d_law_number D.d_law_expression D.d_law_comparison D.d_law_condition D.d_law_counting D.d_law_statement D.d_law_block
    exact ok_law_program T D.d_law_program n1 (ok_law_procedure T D.d_law_procedure n1 n2 (n3 2) (n3 1))
  · have n1 := ok_law_next (P := P) (w := w) (base := base) (ns := ns) T D.d_law_next
    exact ok_law_paper T D.d_law_paper n1 (ok_law_range T D.d_law_range n1) b8
theorem df_mk {K : PySem.W.Frag} {h : Heap} {mg : Str → Option Value} {x : Str} {st : Stmt} {ps : List Str} {f : Addr} {oc kV doc pm cdv ct : Value} {od an : Option Addr} {osl : Array (Option Value)} (X : K.In h) (G : h.Ns mainGlobals mg)
    (a : PySem.W.nsIn K mainGlobals x = some (some (.ref f))) (l : K.lookup f = some ⟨oc, od, .func (PySem.W.fnOf x x (defArgs st) (defBody st) (defScope st) .none kV doc pm an cdv ct), osl⟩) (c : PySem.W.codeIn K cdv x = true) (k : PySem.W.keepIn K (.ref f) = true)
    (b : ∀ (kV doc pm : Value) (an : Option Addr) (cdv ct : Value) (us : List Value), us.length = ps.length → bindArgs (PySem.W.fnOf x x (defArgs st) (defBody st) (defScope st) .none kV doc pm an cdv ct) ⟨us, []⟩ = pure (ps.zip us)) : Df K mg x st ps :=
  have F := fun_mk (st := st) l c k
  ⟨f, _, F, F.binds b, PySem.W.mg_of X G a⟩
theorem dfc_mk {K : PySem.W.Frag} {h : Heap} {mg : Str → Option Value} {x : Str} {st : Stmt} {ps : List Str} {f c0 : Addr} {oc kV doc pm cdv ct : Value} {od an : Option Addr} {osl : Array (Option Value)} (X : K.In h) (G : h.Ns mainGlobals mg)
    (a : PySem.W.nsIn K mainGlobals x = some (some (.ref f))) (l : K.lookup f = some ⟨oc, od, .func (PySem.W.fnOf x x (defArgs st) (defBody st) (defScope st) .none kV doc pm an cdv ct), osl⟩) (c : PySem.W.codeIn K cdv x = true) (k : PySem.W.keepIn K (.ref f) = true) (e : cdv = .ref c0)
    (b : ∀ (kV doc pm : Value) (an : Option Addr) (cdv ct : Value) (us : List Value), us.length = ps.length → bindArgs (PySem.W.fnOf x x (defArgs st) (defBody st) (defScope st) .none kV doc pm an cdv ct) ⟨us, []⟩ = pure (ps.zip us)) : DfC K mg x st ps c0 :=
  have F := fun_mk (st := st) l c k
  ⟨f, _, F, F.binds b, PySem.W.mg_of X G a, e⟩
/-- what the head's heap tells -/
def Facts (K : PySem.W.Frag) (mg : Str → Option Value) (fa : Addr) : Prop :=
  ∃ (c pt za : Addr) (fd : FuncData), Fun K "law" "law" s_law fa fd ∧ (∀ (s : Shared) (u : Value), BindsTo s fd ⟨[u], []⟩ [("_law_script", u)]) ∧ Bl mg ∧ Ds K mg c ∧ PySem.W.tabIn K "read_number" = some (c, pt) ∧ K.lookup pt = none ∧ mg "ZERO" = some (.ref za) ∧ ∀ H, SqT K H za [.int 0, .int 0, .int 0]
theorem law_mk {K : PySem.W.Frag} {h : Heap} {mg : Str → Option Value} {fa f : Addr} {oc kV doc pm cdv ct : Value} {od an : Option Addr} {osl : Array (Option Value)} (X : K.In h) (G : h.Ns mainGlobals mg) (hfa : mg "law" = some (.ref fa))
    (a : PySem.W.nsIn K mainGlobals "law" = some (some (.ref f))) (l : K.lookup f = some ⟨oc, od, .func (PySem.W.fnOf "law" "law" (defArgs s_law) (defBody s_law) (defScope s_law) .none kV doc pm an cdv ct), osl⟩) (c : PySem.W.codeIn K cdv "law" = true) (k : PySem.W.keepIn K (.ref f) = true) :
    ∃ fd, Fun K "law" "law" s_law fa fd ∧ ∀ (s : Shared) (u : Value), BindsTo s fd ⟨[u], []⟩ [("_law_script", u)] := by
  have e := hfa.symm.trans (PySem.W.mg_of X G a)
  cases e
  exact ⟨_, fun_mk (st := s_law) l c k, fun s v => .of_eq rfl⟩
theorem zero_sq {K : PySem.W.Frag} {za : Addr} {dd : Option Addr} {t0 t1 t2 : Tok} {n : Nat} {sl : Array (Option Value)} (l : K.lookup za = some ⟨.type "tuple", dd, .seq #[.int 0 t0, .int 0 t1, .int 0 t2] n, sl⟩) : ∀ H, SqT K H za [.int 0, .int 0, .int 0] := fun _ =>
  .inr ⟨_, _, _, l, rfl, rfl, by show (3:Nat) ≤ sizeLine; decide, .cons ⟨_, rfl⟩ (.cons ⟨_, rfl⟩ (.cons ⟨_, rfl⟩ .nil))⟩
theorem tab_mk {K : PySem.W.Frag} {x : Str} {f c pt : Addr} {fd : FuncData} {vs : Array Value} {oc oc2 : Value} {od od2 : Option Addr} {osl sl2 : Array (Option Value)} (a : PySem.W.nsIn K mainGlobals x = some (some (.ref f))) (l : K.lookup f = some ⟨oc, od, .func fd, osl⟩)
    (e : fd.code = .ref c) (l2 : K.lookup c = some ⟨oc2, od2, .fields vs, sl2⟩) (g : (vs[11]? : Option Value) = some (.ref pt)) : PySem.W.tabIn K x = some (c, pt) := by
  unfold PySem.W.tabIn
  simp only [a, l, e, l2, g]
theorem bl_mk {K : PySem.W.Frag} {h : Heap} {mg : Str → Option Value} {t : Tok} (X : K.In h) (G : h.Ns mainGlobals mg) (b0 : PySem.W.nsIn K mainGlobals "len" = some none) (b1 : PySem.W.nsIn K mainGlobals "str" = some none) (b2 : PySem.W.nsIn K mainGlobals "int" = some none) (b3 : PySem.W.nsIn K mainGlobals "bool" = some none) (b4 : PySem.W.nsIn K mainGlobals "list" = some none) (b5 : PySem.W.nsIn K mainGlobals "tuple" = some none) (b6 : PySem.W.nsIn K mainGlobals "range" = some none) (b7 : PySem.W.nsIn K mainGlobals "isinstance" = some none) (b8 : PySem.W.nsIn K mainGlobals "repr" = some none) (b9 : PySem.W.nsIn K mainGlobals "enumerate" = some none) (b10 : PySem.W.nsIn K mainGlobals "zip" = some none) (b11 : PySem.W.nsIn K mainGlobals "sorted" = some none) (b12 : PySem.W.nsIn K mainGlobals "min" = some none) (b13 : PySem.W.nsIn K mainGlobals "abs" = some none) (b14 : PySem.W.nsIn K mainGlobals "all" = some none) (bL : PySem.W.nsIn K mainGlobals "LARGEST" = some (some (.int 10000 t))) : Bl mg :=
  ⟨PySem.W.mg_none_of X G b0, PySem.W.mg_none_of X G b1, PySem.W.mg_none_of X G b2, PySem.W.mg_none_of X G b3, PySem.W.mg_none_of X G b4, PySem.W.mg_none_of X G b5, PySem.W.mg_none_of X G b6, PySem.W.mg_none_of X G b7, PySem.W.mg_none_of X G b8, PySem.W.mg_none_of X G b9, PySem.W.mg_none_of X G b10, PySem.W.mg_none_of X G b11, PySem.W.mg_none_of X G b12, PySem.W.mg_none_of X G b13, PySem.W.mg_none_of X G b14, ⟨t, PySem.W.mg_of X G bL⟩⟩
theorem facts_mk {K : PySem.W.Frag} {h : Heap} {mg : Str → Option Value} {fa f c pt za : Addr} {fd fdn : FuncData} {vs : Array Value} {oc oc2 : Value} {od od2 dd : Option Addr} {osl sl2 sl : Array (Option Value)} {t0 t1 t2 : Tok} {n : Nat} (X : K.In h) (G : h.Ns mainGlobals mg)
    (hF : Fun K "law" "law" s_law fa fd ∧ ∀ (s : Shared) (u : Value), BindsTo s fd ⟨[u], []⟩ [("_law_script", u)]) (a : PySem.W.nsIn K mainGlobals "read_number" = some (some (.ref f))) (l : K.lookup f = some ⟨oc, od, .func fdn, osl⟩)
    (e : fdn.code = .ref c) (l2 : K.lookup c = some ⟨oc2, od2, .fields vs, sl2⟩) (g : (vs[11]? : Option Value) = some (.ref pt)) (no : K.lookup pt = none) (z : PySem.W.nsIn K mainGlobals "ZERO" = some (some (.ref za)))
    (zl : K.lookup za = some ⟨.type "tuple", dd, .seq #[.int 0 t0, .int 0 t1, .int 0 t2] n, sl⟩) (bl : Bl mg) (ds : Ds K mg c) : Facts K mg fa :=
  ⟨c, pt, za, fd, hF.1, hF.2, bl, ds, tab_mk a l e l2 g, no, PySem.W.mg_of X G z, zero_sq zl⟩
theorem walk {l : PySem.W.OpenLaw} {q : Program} {loose : List Str} {XP : (Str → Option Value) → Heap → Prop} {YP : World → Heap → Prop} {d : DefRec} {K : Params → PySem.W.Frag} (hn : l.most = some 63) (hdf : d.params.defaults = []) (hnm : d.name = "law")
    (hrec : ((recsOf q).find? fun e => e.name == ("read_number" : Str)).isSome = true) (hY : ∀ (w : World) (h : Heap), YP w h → (K w.params).In h)
    (F : ∀ (w : World) (mg : Str → Option Value) (fa : Addr) (h : Heap), (K w.params).In h → h.Ns mainGlobals mg → mg "law" = some (.ref fa) → Facts (K w.params) mg fa) :
    PySem.W.WalkO q loose XP YP l.row.toRowW d [] (fun f vs => PySem.call f vs) := by
  refine Att.attach_callB hn hdf fun w s0 s1 mg mb fa o pm cd doc a vs ns G Y ho hd hcd hmg hobj hints hlen _ hg => ?_
  have KX := hY w _ Y
  rw [hnm] at hmg
  obtain ⟨c, pt, za, fd, FL, bd, T, D, ht, hl, hz1, hz2⟩ := F w mg fa _ KX G.T.g hmg
  obtain ⟨dr, hdr⟩ := Option.isSome_iff_exists.mp hrec
  obtain ⟨hC, hP⟩ := PySem.W.tab_of G.T KX hdr ht
  have hz : ns.length ≤ sizeLine := Nat.le_trans hlen (by decide)
  refine law_end KX G.T.g G.T.b G.T.builtins G.T.nolimit hg hP hl hC G.T.bmain hobj hints hz fun base H kn nsb tb env hp hs => ?_
  exact law_run (us := [Value.ref a]) (vs := [V.ref a]) FL T (cs_of T D tb hz1 hz2) ⟨rfl, by decide, by decide⟩ rfl env (bd s1 (.ref a)) (.cons rfl .nil) ⟨a, ns, rfl, hs, by omega, ⟨#[], hp, by first | exact trivial | simp [TriplesOk] | (intro i; simp)⟩, fun _ => rfl⟩
end Cl

open PySem PySem.W PyProof.Rows
set_option maxRecDepth 100000 in
set_option maxHeartbeats 0 in
theorem PySem.Challenge.cw_carryclaim_k14_whole_papers_written_and_holds : PySem.Challenge.rw_carryclaim_k14_whole_papers_written_and.Holds := by
  w_on; o_law; k_head; (case hw => w_witness2)
  k_fill
  refine Cl.walk (l := PySem.Challenge.rw_carryclaim_k14_whole_papers_written_and) rfl rfl rfl (by decide +kernel) (fun w h Y => PySem.W.kIn_of Y) ?F
  case F =>
    intro w mg fa h KX G hmg
    refine' Exists.elim (Cl.law_mk KX G hmg ?a ?l ?c ?k) fun fd hfd => ?rest
    (case a => k_is)
    (case l => k_is)
    (case c => k_is)
    (case k => k_is)
    refine' Cl.facts_mk KX G hfd ?a ?l ?e ?l2 ?g ?no ?z ?zl ?bl ?ds
    (case a => k_is)
    (case l => k_is)
    (case e => rfl)
    (case l2 => k_is)
    (case g => rfl)
    (case no => first | kernel_rfl | rfl | decide +kernel)
    (case z => k_is)
    (case zl => k_is)
    case bl =>
      refine' Cl.bl_mk KX G ?b0 ?b1 ?b2 ?b3 ?b4 ?b5 ?b6 ?b7 ?b8 ?b9 ?b10 ?b11 ?b12 ?b13 ?b14 ?bL
      (case b0 => k_is)
      (case b1 => k_is)
      (case b2 => k_is)
      (case b3 => k_is)
      (case b4 => k_is)
      (case b5 => k_is)
      (case b6 => k_is)
      (case b7 => k_is)
      (case b8 => k_is)
      (case b9 => k_is)
      (case b10 => k_is)
      (case b11 => k_is)
      (case b12 => k_is)
      (case b13 => k_is)
      (case b14 => k_is)
      (case bL => k_is)
    case ds =>
      refine' ⟨?e0, ?e1, ?e2, ?e3, ?e4, ?e5, ?e6, ?e7, ?e8, ?e9, ?e10, ?e11, ?e12, ?e13, ?e14, ?e15, ?e16, ?e17, ?e18, ?e19, ?e20, ?e21, ?e22, ?e23, ?e24, ?e25, ?e26, ?e27, ?e28, ?e29, ?e30, ?e31, ?e32, ?e33, ?e34, ?e35, ?e36, ?e37, ?e38, ?e39, ?e40, ?e41, ?e42, ?e43, ?e44, ?e45, ?e46, ?e47⟩
      case e0 =>
        refine' Cl.df_mk KX G ?a ?l ?c ?k ?b
        (case a => k_is)
        (case l => k_is)
        (case c => k_is)
        (case k => k_is)
        (case b => exact fun _ _ _ _ _ _ us hl => match us, hl with | [_, _], _ => rfl)
      case e1 =>
        refine' Cl.df_mk KX G ?a ?l ?c ?k ?b
        (case a => k_is)
        (case l => k_is)
        (case c => k_is)
        (case k => k_is)
        (case b => exact fun _ _ _ _ _ _ us hl => match us, hl with | [_], _ => rfl)
      case e2 =>
        refine' Cl.df_mk KX G ?a ?l ?c ?k ?b
        (case a => k_is)
        (case l => k_is)
        (case c => k_is)
        (case k => k_is)
        (case b => exact fun _ _ _ _ _ _ us hl => match us, hl with | [_], _ => rfl)
      case e3 =>
        refine' Cl.df_mk KX G ?a ?l ?c ?k ?b
        (case a => k_is)
        (case l => k_is)
        (case c => k_is)
        (case k => k_is)
        (case b => exact fun _ _ _ _ _ _ us hl => match us, hl with | [_], _ => rfl)
      case e4 =>
        refine' Cl.df_mk KX G ?a ?l ?c ?k ?b
        (case a => k_is)
        (case l => k_is)
        (case c => k_is)
        (case k => k_is)
        (case b => exact fun _ _ _ _ _ _ us hl => match us, hl with | [_, _], _ => rfl)
      case e5 =>
        refine' Cl.df_mk KX G ?a ?l ?c ?k ?b
        (case a => k_is)
        (case l => k_is)
        (case c => k_is)
        (case k => k_is)
        (case b => exact fun _ _ _ _ _ _ us hl => match us, hl with | [_, _], _ => rfl)
      case e6 =>
        refine' Cl.df_mk KX G ?a ?l ?c ?k ?b
        (case a => k_is)
        (case l => k_is)
        (case c => k_is)
        (case k => k_is)
        (case b => exact fun _ _ _ _ _ _ us hl => match us, hl with | [_, _, _], _ => rfl)
      case e7 =>
        refine' Cl.df_mk KX G ?a ?l ?c ?k ?b
        (case a => k_is)
        (case l => k_is)
        (case c => k_is)
        (case k => k_is)
        (case b => exact fun _ _ _ _ _ _ us hl => match us, hl with | [_, _], _ => rfl)
      case e8 =>
        refine' Cl.df_mk KX G ?a ?l ?c ?k ?b
        (case a => k_is)
        (case l => k_is)
        (case c => k_is)
        (case k => k_is)
        (case b => exact fun _ _ _ _ _ _ us hl => match us, hl with | [_], _ => rfl)
      case e9 =>
        refine' Cl.df_mk KX G ?a ?l ?c ?k ?b
        (case a => k_is)
        (case l => k_is)
        (case c => k_is)
        (case k => k_is)
        (case b => exact fun _ _ _ _ _ _ us hl => match us, hl with | [_, _], _ => rfl)
      case e10 =>
        refine' Cl.df_mk KX G ?a ?l ?c ?k ?b
        (case a => k_is)
        (case l => k_is)
        (case c => k_is)
        (case k => k_is)
        (case b => exact fun _ _ _ _ _ _ us hl => match us, hl with | [_, _], _ => rfl)
      case e11 =>
        refine' Cl.df_mk KX G ?a ?l ?c ?k ?b
        (case a => k_is)
        (case l => k_is)
        (case c => k_is)
        (case k => k_is)
        (case b => exact fun _ _ _ _ _ _ us hl => match us, hl with | [_], _ => rfl)
      case e12 =>
        refine' Cl.df_mk KX G ?a ?l ?c ?k ?b
        (case a => k_is)
        (case l => k_is)
        (case c => k_is)
        (case k => k_is)
        (case b => exact fun _ _ _ _ _ _ us hl => match us, hl with | [_, _, _], _ => rfl)
      case e13 =>
        refine' Cl.df_mk KX G ?a ?l ?c ?k ?b
        (case a => k_is)
        (case l => k_is)
        (case c => k_is)
        (case k => k_is)
        (case b => exact fun _ _ _ _ _ _ us hl => match us, hl with | [_, _], _ => rfl)
      case e14 =>
        refine' Cl.df_mk KX G ?a ?l ?c ?k ?b
        (case a => k_is)
        (case l => k_is)
        (case c => k_is)
        (case k => k_is)
        (case b => exact fun _ _ _ _ _ _ us hl => match us, hl with | [_, _, _], _ => rfl)
      case e15 =>
        refine' Cl.df_mk KX G ?a ?l ?c ?k ?b
        (case a => k_is)
        (case l => k_is)
        (case c => k_is)
        (case k => k_is)
        (case b => exact fun _ _ _ _ _ _ us hl => match us, hl with | [_], _ => rfl)
      case e16 =>
        refine' Cl.df_mk KX G ?a ?l ?c ?k ?b
        (case a => k_is)
        (case l => k_is)
        (case c => k_is)
        (case k => k_is)
        (case b => exact fun _ _ _ _ _ _ us hl => match us, hl with | [_], _ => rfl)
      case e17 =>
        refine' Cl.df_mk KX G ?a ?l ?c ?k ?b
        (case a => k_is)
        (case l => k_is)
        (case c => k_is)
        (case k => k_is)
        (case b => exact fun _ _ _ _ _ _ us hl => match us, hl with | [_], _ => rfl)
      case e18 =>
        refine' Cl.df_mk KX G ?a ?l ?c ?k ?b
        (case a => k_is)
        (case l => k_is)
        (case c => k_is)
        (case k => k_is)
        (case b => exact fun _ _ _ _ _ _ us hl => match us, hl with | [_], _ => rfl)
      case e19 =>
        refine' Cl.df_mk KX G ?a ?l ?c ?k ?b
        (case a => k_is)
        (case l => k_is)
        (case c => k_is)
        (case k => k_is)
        (case b => exact fun _ _ _ _ _ _ us hl => match us, hl with | [_], _ => rfl)
      case e20 =>
        refine' Cl.df_mk KX G ?a ?l ?c ?k ?b
        (case a => k_is)
        (case l => k_is)
        (case c => k_is)
        (case k => k_is)
        (case b => exact fun _ _ _ _ _ _ us hl => match us, hl with | [_, _], _ => rfl)
      case e21 =>
        refine' Cl.df_mk KX G ?a ?l ?c ?k ?b
        (case a => k_is)
        (case l => k_is)
        (case c => k_is)
        (case k => k_is)
        (case b => exact fun _ _ _ _ _ _ us hl => match us, hl with | [_, _, _, _, _], _ => rfl)
      case e22 =>
        refine' Cl.df_mk KX G ?a ?l ?c ?k ?b
        (case a => k_is)
        (case l => k_is)
        (case c => k_is)
        (case k => k_is)
        (case b => exact fun _ _ _ _ _ _ us hl => match us, hl with | [_], _ => rfl)
      case e23 =>
        refine' Cl.dfc_mk KX G ?a ?l ?c ?k ?e ?b
        (case a => k_is)
        (case l => k_is)
        (case c => k_is)
        (case k => k_is)
        (case e => rfl)
        (case b => exact fun _ _ _ _ _ _ us hl => match us, hl with | [_], _ => rfl)
      case e24 =>
        refine' Cl.df_mk KX G ?a ?l ?c ?k ?b
        (case a => k_is)
        (case l => k_is)
        (case c => k_is)
        (case k => k_is)
        (case b => exact fun _ _ _ _ _ _ us hl => match us, hl with | [_, _, _], _ => rfl)
      case e25 =>
        refine' Cl.df_mk KX G ?a ?l ?c ?k ?b
        (case a => k_is)
        (case l => k_is)
        (case c => k_is)
        (case k => k_is)
        (case b => exact fun _ _ _ _ _ _ us hl => match us, hl with | [_, _], _ => rfl)
      case e26 =>
        refine' Cl.df_mk KX G ?a ?l ?c ?k ?b
        (case a => k_is)
        (case l => k_is)
        (case c => k_is)
        (case k => k_is)
        (case b => exact fun _ _ _ _ _ _ us hl => match us, hl with | [_, _], _ => rfl)
      case e27 =>
        refine' Cl.df_mk KX G ?a ?l ?c ?k ?b
        (case a => k_is)
        (case l => k_is)
        (case c => k_is)
        (case k => k_is)
        (case b => exact fun _ _ _ _ _ _ us hl => match us, hl with | [_, _, _, _], _ => rfl)
      case e28 =>
        refine' Cl.df_mk KX G ?a ?l ?c ?k ?b
        (case a => k_is)
        (case l => k_is)
        (case c => k_is)
        (case k => k_is)
        (case b => exact fun _ _ _ _ _ _ us hl => match us, hl with | [_, _, _], _ => rfl)
      case e29 =>
        refine' Cl.df_mk KX G ?a ?l ?c ?k ?b
        (case a => k_is)
        (case l => k_is)
        (case c => k_is)
        (case k => k_is)
        (case b => exact fun _ _ _ _ _ _ us hl => match us, hl with | [_, _, _], _ => rfl)
      case e30 =>
        refine' Cl.df_mk KX G ?a ?l ?c ?k ?b
        (case a => k_is)
        (case l => k_is)
        (case c => k_is)
        (case k => k_is)
        (case b => exact fun _ _ _ _ _ _ us hl => match us, hl with | [_, _, _, _], _ => rfl)
      case e31 =>
        refine' Cl.df_mk KX G ?a ?l ?c ?k ?b
        (case a => k_is)
        (case l => k_is)
        (case c => k_is)
        (case k => k_is)
        (case b => exact fun _ _ _ _ _ _ us hl => match us, hl with | [_, _, _, _], _ => rfl)
      case e32 =>
        refine' Cl.df_mk KX G ?a ?l ?c ?k ?b
        (case a => k_is)
        (case l => k_is)
        (case c => k_is)
        (case k => k_is)
        (case b => exact fun _ _ _ _ _ _ us hl => match us, hl with | [_, _, _, _], _ => rfl)
      case e33 =>
        refine' Cl.df_mk KX G ?a ?l ?c ?k ?b
        (case a => k_is)
        (case l => k_is)
        (case c => k_is)
        (case k => k_is)
        (case b => exact fun _ _ _ _ _ _ us hl => match us, hl with | [_, _, _, _, _], _ => rfl)
      case e34 =>
        refine' Cl.df_mk KX G ?a ?l ?c ?k ?b
        (case a => k_is)
        (case l => k_is)
        (case c => k_is)
        (case k => k_is)
        (case b => exact fun _ _ _ _ _ _ us hl => match us, hl with | [_, _], _ => rfl)
      case e35 =>
        refine' Cl.df_mk KX G ?a ?l ?c ?k ?b
        (case a => k_is)
        (case l => k_is)
        (case c => k_is)
        (case k => k_is)
        (case b => exact fun _ _ _ _ _ _ us hl => match us, hl with | [_], _ => rfl)
      case e36 =>
        refine' Cl.df_mk KX G ?a ?l ?c ?k ?b
        (case a => k_is)
        (case l => k_is)
        (case c => k_is)
        (case k => k_is)
        (case b => exact fun _ _ _ _ _ _ us hl => match us, hl with | [_], _ => rfl)
      case e37 =>
        refine' Cl.df_mk KX G ?a ?l ?c ?k ?b
        (case a => k_is)
        (case l => k_is)
        (case c => k_is)
        (case k => k_is)
        (case b => exact fun _ _ _ _ _ _ us hl => match us, hl with | [_], _ => rfl)
      case e38 =>
        refine' Cl.df_mk KX G ?a ?l ?c ?k ?b
        (case a => k_is)
        (case l => k_is)
        (case c => k_is)
        (case k => k_is)
        (case b => exact fun _ _ _ _ _ _ us hl => match us, hl with | [_, _], _ => rfl)
      case e39 =>
        refine' Cl.df_mk KX G ?a ?l ?c ?k ?b
        (case a => k_is)
        (case l => k_is)
        (case c => k_is)
        (case k => k_is)
        (case b => exact fun _ _ _ _ _ _ us hl => match us, hl with | [_], _ => rfl)
      case e40 =>
        refine' Cl.df_mk KX G ?a ?l ?c ?k ?b
        (case a => k_is)
        (case l => k_is)
        (case c => k_is)
        (case k => k_is)
        (case b => exact fun _ _ _ _ _ _ us hl => match us, hl with | [_, _, _], _ => rfl)
      case e41 =>
        refine' Cl.df_mk KX G ?a ?l ?c ?k ?b
        (case a => k_is)
        (case l => k_is)
        (case c => k_is)
        (case k => k_is)
        (case b => exact fun _ _ _ _ _ _ us hl => match us, hl with | [_, _, _], _ => rfl)
      case e42 =>
        refine' Cl.df_mk KX G ?a ?l ?c ?k ?b
        (case a => k_is)
        (case l => k_is)
        (case c => k_is)
        (case k => k_is)
        (case b => exact fun _ _ _ _ _ _ us hl => match us, hl with | [_, _, _], _ => rfl)
      case e43 =>
        refine' Cl.df_mk KX G ?a ?l ?c ?k ?b
        (case a => k_is)
        (case l => k_is)
        (case c => k_is)
        (case k => k_is)
        (case b => exact fun _ _ _ _ _ _ us hl => match us, hl with | [_], _ => rfl)
      case e44 =>
        refine' Cl.df_mk KX G ?a ?l ?c ?k ?b
        (case a => k_is)
        (case l => k_is)
        (case c => k_is)
        (case k => k_is)
        (case b => exact fun _ _ _ _ _ _ us hl => match us, hl with | [_, _, _], _ => rfl)
      case e45 =>
        refine' Cl.df_mk KX G ?a ?l ?c ?k ?b
        (case a => k_is)
        (case l => k_is)
        (case c => k_is)
        (case k => k_is)
        (case b => exact fun _ _ _ _ _ _ us hl => match us, hl with | [_], _ => rfl)
      case e46 =>
        refine' Cl.df_mk KX G ?a ?l ?c ?k ?b
        (case a => k_is)
        (case l => k_is)
        (case c => k_is)
        (case k => k_is)
        (case b => exact fun _ _ _ _ _ _ us hl => match us, hl with | [_], _ => rfl)
      case e47 =>
        refine' Cl.df_mk KX G ?a ?l ?c ?k ?b
        (case a => k_is)
        (case l => k_is)
        (case c => k_is)
        (case k => k_is)
        (case b => exact fun _ _ _ _ _ _ us hl => match us, hl with | [_], _ => rfl)
